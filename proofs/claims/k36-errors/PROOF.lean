import PyProof.Rows.All
import Wide.All
import OpenK.AllK
import Wide.FinOn
import KE.KStateDown
import Lean
import HandS.ForMost
import HandS.Exc
import HandS.Wide
import HandS.Style
import HandS.SortInts
import HandS.DictComp
import HandS.Defaults
import HandS.EndBits
import HandS.Head0
import HandS.Head1
import HandS.Head2
import HandS.HeadEnd
import HandS.HeadHook1
import HandS.HeadHook2
import HandS.ExcInit
import HandS.ExcField
import HandS.ForExc
import HandS.IsInst
import HandS.MakeKw
import HandS.MakeKwOnly
import HandS.More
import HandS.ExcOwn
import HandS.WordsExc
import KE.KExcInit
import HandS.ExcIs
import KE.KExcIs
import PyProof.ExcBaseAll.RuntimeError
import PyProof.ExcBaseAll.LookupError
import PyProof.ExcBaseAll.OverflowError
import PySem.Challenge.RW_livevolumes_k36_error_classes
set_option Elab.async false
set_option linter.all false
set_option maxRecDepth 100000
set_option maxHeartbeats 2000000
namespace My
open PySem PySem.Spec PyProof.Rows L2
section
variable {σ : L2.St} {H : Hp} {Q : VK} {nx bk ct : L2.St → Hp → Prop} {rt : VK} {t t1 t2 u : TS} {te ta tb tc : TE} {c d : TT} {g : TG} {x y v w : V}
theorem x_seq (h : t1 ⟨t2 ⟨nx, rt, bk, ct⟩, rt, bk, ct⟩ σ H) : tSeq t1 t2 ⟨nx, rt, bk, ct⟩ σ H := h
theorem x_next (h : nx σ H) : tNext ⟨nx, rt, bk, ct⟩ σ H := h
theorem x_ret (h : te σ H rt) : tRet te ⟨nx, rt, bk, ct⟩ σ H := h
theorem x_drop (h : te σ H fun _ H1 => nx σ H1) : tDrop te ⟨nx, rt, bk, ct⟩ σ H := h
theorem x_asg (h : te σ H fun x H1 => g x σ H1 nx) : tAsg te g ⟨nx, rt, bk, ct⟩ σ H := h
theorem x_ifs (h : c σ H fun b H1 => if b = true then t ⟨nx, rt, bk, ct⟩ σ H1 else u ⟨nx, rt, bk, ct⟩ σ H1) : tIfS c t u ⟨nx, rt, bk, ct⟩ σ H := h
theorem x_c (h : Q v H) : tC v σ H Q := h
theorem x_op {r : R2} (h : ta σ H fun x H1 => tb σ H1 fun y H2 => r x y H2 Q) : tOp r ta tb σ H Q := h
theorem x_un {r : V → Hp → VK → Prop} (h : ta σ H fun x H1 => r x H1 Q) : tUn r ta σ H Q := h
theorem x_nil {Q : List V → Hp → Prop} (h : Q [] H) : tNil σ H Q := h
theorem x_cons {tr : TA} {Q : List V → Hp → Prop} (h : ta σ H fun x H1 => tr σ H1 fun xs H2 => Q (x :: xs) H2) : tCons ta tr σ H Q := h
theorem x_cb {r : List V → Hp → VK → Prop} {ta : TA} (h : ta σ H fun vs H1 => r vs H1 Q) : tCB r ta σ H Q := h
theorem x_call {sp : Sp} {dvs : List V} {E : XK} {ta : TA} (h : ta σ H fun vs H1 => sp (vs ++ dvs) H1 Q E) : tCall sp dvs E ta σ H Q := h
theorem x_test {Q : Bool → Hp → Prop} (h : te σ H fun x H' => ∃ k, x = .bl k ∧ Q k H') : tTest te σ H Q := h
theorem x_exbl {b : Bool} {R : Bool → Prop} (h : R b) : ∃ k, V.bl b = .bl k ∧ R k := ⟨b, rfl, h⟩
theorem x_yes {Q : Bool → Hp → Prop} (h : Q true H) : tYes σ H Q := h
theorem x_tfor {wi : TI} {tb : TS} (h : wi σ H fun J H1 => ∃ W : Nat → Nat → L2.St → Hp → Prop, (∃ m, W 0 m σ H1) ∧ ∀ i m σ H, W i m σ H →
  (J.stop i H ∧ nx σ H) ∨ (J.go i H ∧ ∃ N : L2.St → Hp → Prop, (∀ σ' H', N σ' H' → ∃ m', m' < m ∧ W (i + 1) m' σ' H') ∧ ∀ x H', J.yld i H x H' → g x σ H' fun σ2 H2 => tb ⟨N, rt, nx, N⟩ σ2 H2)) : tFor wi g tb ⟨nx, rt, bk, ct⟩ σ H := h
theorem x_ilist {K : PySem.W.Frag} {R} (h : te σ H fun x H1 => ∃ a, x = .ref a ∧ (∃ xs, SqL K H1 a xs) ∧ R (Itl K a) H1) : iList K te σ H R := h
theorem x_rng1 {ta : TA} {R} (h : ta σ H fun vs H1 => ∃ j : Int, vs = [.int j] ∧ -(2 ^ 62) ≤ j ∧ j < 2 ^ 62 ∧ R (Itr 0 j.toNat) H1) : iRng1 ta σ H R := h
theorem x_ii0 {i j : Int} {g : Int → Int → V} (h : Q (g i j) H) : rI0 g (.int i) (.int j) H Q := ⟨i, j, rfl, rfl, h⟩
theorem x_r1 {i : Int} {g : Int → V} (h : Q (g i) H) : rU g (.int i) H Q := ⟨i, rfl, h⟩
theorem x_iT {A B : Prop} (h : A) : if true = true then A else B := iteT h
theorem x_iF {A B : Prop} (h : B) : if false = true then A else B := iteF h
theorem x_bm {K : PySem.W.Frag} {T : String} {r : V → List V → Hp → VK → Prop} {t : TA} (h : te σ H fun x H1 => tyV K T x H1 ∧ t σ H1 fun xs H2 => r x xs H2 Q) : tBM K T r te t σ H Q := h
/-- a rule with a side condition -/
theorem x_i {C : Int → Int → Prop} {i j : Int} {g : Int → Int → V} (hc : C i j) (h : Q (g i j) H) : rI C g (.int i) (.int j) H Q := ⟨i, j, rfl, rfl, hc, h⟩
theorem x_dec {p : Prop} [Decidable p] {A B : Prop} (h1 : p → A) (h2 : ¬ p → B) : if decide p = true then A else B := by
  by_cases h : p
  · rw [decide_eq_true h]; exact iteT (h1 h)
  · rw [decide_eq_false h]; exact iteF (h2 h)
theorem x_eq (h : scal x y = true) (k : Q (.bl (decide (x = y))) H) : rEq x y H Q := ⟨h, k⟩
theorem x_ne (h : scal x y = true) (k : Q (.bl (!decide (x = y))) H) : rNe x y H Q := ⟨h, k⟩
theorem x_lst {ta : TA} (h : ta σ H fun xs H1 => xs.length ≤ sizeLine ∧ ∀ p, H1 p = none → Q (.ref p) (upd H1 p (.lst xs))) : tLst ta σ H Q := h
theorem x_tup {ta : TA} (h : ta σ H fun xs H1 => xs.length ≤ sizeLine ∧ ∀ p, H1 p = none → Q (.ref p) (upd H1 p (.tup xs))) : tTup ta σ H Q := h
theorem x_ixL {K : PySem.W.Frag} {p : Addr} {xs : List V} {i : Int} (h : SqL K H p xs) (ha : atI xs i = some v) (k : Q v H) : rIxL K (.ref p) (.int i) H Q := ⟨p, xs, i, v, rfl, rfl, h, ha, k⟩
theorem x_setL {p : Addr} {xs : List V} {i : Int} {j : Nat} {Q : Hp → Prop} (h : H p = some (.lst xs)) (hi : ixN xs.length i = some j) (k : Q (upd H p (.lst (xs.set j v)))) : rSetL (.ref p) (.int i) v H Q := ⟨p, xs, i, j, rfl, rfl, h, hi, k⟩
theorem x_mem1 {n : Nat} {A : Prop} (h : n ≤ sizeLine) (k : A) : n ≤ sizeLine ∧ A := ⟨h, k⟩
theorem x_start {t : TS} {D : Ends} {σ σ' : L2.St} {H : Hp} (e : σ' = σ) (h : t D σ H) : t D σ' H := e ▸ h
theorem x_gsub {to ti : TE} {ts : TSet} {Q : L2.St → Hp → Prop} (h : to σ H fun o H1 => ti σ H1 fun i H2 => ts o i v H2 fun H3 => Q σ H3) : gSub to ti ts v σ H Q := h
theorem x_int1 {i : Int} {R : Prop} {Q : Int → Prop} (h : Q i) : (∃ j, [V.int i] = [.int j] ∧ Q j) ∨ R := .inl ⟨i, rfl, h⟩
theorem x_len {K : PySem.W.Frag} {a : Addr} {ys : List V} {Q : List V → Prop} (s : SqL K H a ys) (h : Q ys) : ∃ (p : Addr) (ys : List V), [V.ref a] = [.ref p] ∧ (SqL K H p ys ∨ SqT K H p ys) ∧ Q ys := ⟨a, ys, rfl, .inl s, h⟩
theorem x_two {i j : Int} {Q : Int → Int → Prop} (h : Q i j) : ∃ a b : Int, [V.int i, V.int j] = [.int a, .int b] ∧ Q a b := ⟨i, j, rfl, h⟩
theorem x_dnew (h : ∀ p, H p = none → Q (.ref p) (upd H p (.dK []))) : tDNewK σ H Q := h
theorem x_append {l : Addr} {xs : List V} (s : H l = some (.lst xs)) (n : xs.length < sizeLine) (h : Q .non (upd H l (.lst (xs ++ [y])))) : rAppend (.ref l) [y] H Q := ⟨l, xs, y, rfl, rfl, s, n, h⟩
theorem x_tyL {K : PySem.W.Frag} {a : Addr} {xs : List V} {R : Prop} (s : H a = some (.lst xs)) (h : R) : tyV K "list" (.ref a) H ∧ R := ⟨.inl ⟨rfl, _, SqL.of s⟩, h⟩
theorem x_ilistE {K : PySem.W.Frag} {a : Addr} {xs : List V} {R : Addr → Prop} (s : SqL K H a xs) (h : R a) : ∃ b, V.ref a = .ref b ∧ (∃ xs, SqL K H b xs) ∧ R b := ⟨a, rfl, ⟨xs, s⟩, h⟩
theorem x_rng1E {j : Int} {R : Int → Prop} (h1 : -(2 ^ 62) ≤ j) (h2 : j < 2 ^ 62) (h : R j) : ∃ k : Int, [V.int j] = [.int k] ∧ -(2 ^ 62) ≤ k ∧ k < 2 ^ 62 ∧ R k := ⟨j, rfl, h1, h2, h⟩
end

theorem x_v0 {v : V} {r : L2.St} {H : Hp} {Q : VK} (h : Q v H) : tVar 0 (some v :: r) H Q := ⟨v, rfl, h⟩
theorem x_g0 {v : V} {c : Option V} {r : L2.St} {H : Hp} {Q : L2.St → Hp → Prop} (h : Q (some v :: r) H) : gName 0 v (c :: r) H Q := h
theorem x_v1 {a0 : Option V} {v : V} {r : L2.St} {H : Hp} {Q : VK} (h : Q v H) : tVar 1 (a0 :: some v :: r) H Q := ⟨v, rfl, h⟩
theorem x_g1 {a0 : Option V} {v : V} {c : Option V} {r : L2.St} {H : Hp} {Q : L2.St → Hp → Prop} (h : Q (a0 :: some v :: r) H) : gName 1 v (a0 :: c :: r) H Q := h
theorem x_v2 {a0 a1 : Option V} {v : V} {r : L2.St} {H : Hp} {Q : VK} (h : Q v H) : tVar 2 (a0 :: a1 :: some v :: r) H Q := ⟨v, rfl, h⟩
theorem x_g2 {a0 a1 : Option V} {v : V} {c : Option V} {r : L2.St} {H : Hp} {Q : L2.St → Hp → Prop} (h : Q (a0 :: a1 :: some v :: r) H) : gName 2 v (a0 :: a1 :: c :: r) H Q := h
theorem x_v3 {a0 a1 a2 : Option V} {v : V} {r : L2.St} {H : Hp} {Q : VK} (h : Q v H) : tVar 3 (a0 :: a1 :: a2 :: some v :: r) H Q := ⟨v, rfl, h⟩
theorem x_g3 {a0 a1 a2 : Option V} {v : V} {c : Option V} {r : L2.St} {H : Hp} {Q : L2.St → Hp → Prop} (h : Q (a0 :: a1 :: a2 :: some v :: r) H) : gName 3 v (a0 :: a1 :: a2 :: c :: r) H Q := h
theorem x_v4 {a0 a1 a2 a3 : Option V} {v : V} {r : L2.St} {H : Hp} {Q : VK} (h : Q v H) : tVar 4 (a0 :: a1 :: a2 :: a3 :: some v :: r) H Q := ⟨v, rfl, h⟩
theorem x_g4 {a0 a1 a2 a3 : Option V} {v : V} {c : Option V} {r : L2.St} {H : Hp} {Q : L2.St → Hp → Prop} (h : Q (a0 :: a1 :: a2 :: a3 :: some v :: r) H) : gName 4 v (a0 :: a1 :: a2 :: a3 :: c :: r) H Q := h
theorem x_v5 {a0 a1 a2 a3 a4 : Option V} {v : V} {r : L2.St} {H : Hp} {Q : VK} (h : Q v H) : tVar 5 (a0 :: a1 :: a2 :: a3 :: a4 :: some v :: r) H Q := ⟨v, rfl, h⟩
theorem x_g5 {a0 a1 a2 a3 a4 : Option V} {v : V} {c : Option V} {r : L2.St} {H : Hp} {Q : L2.St → Hp → Prop} (h : Q (a0 :: a1 :: a2 :: a3 :: a4 :: some v :: r) H) : gName 5 v (a0 :: a1 :: a2 :: a3 :: a4 :: c :: r) H Q := h
theorem x_v6 {a0 a1 a2 a3 a4 a5 : Option V} {v : V} {r : L2.St} {H : Hp} {Q : VK} (h : Q v H) : tVar 6 (a0 :: a1 :: a2 :: a3 :: a4 :: a5 :: some v :: r) H Q := ⟨v, rfl, h⟩
theorem x_g6 {a0 a1 a2 a3 a4 a5 : Option V} {v : V} {c : Option V} {r : L2.St} {H : Hp} {Q : L2.St → Hp → Prop} (h : Q (a0 :: a1 :: a2 :: a3 :: a4 :: a5 :: some v :: r) H) : gName 6 v (a0 :: a1 :: a2 :: a3 :: a4 :: a5 :: c :: r) H Q := h


/-! ### loops over lists, by what is behind and ahead -/
section
variable {K : PySem.W.Frag} {a : Addr} {α : Type} {f : α → V} {ys : List α} {g : TG} {tb : TS} {σ : L2.St} {H : Hp} {nx : L2.St → Hp → Prop} {rt : VK}
theorem getElem?_split {ys : List α} {i : Nat} {x : α} (h : ys[i]? = some x) : ys = ys.take i ++ x :: ys.drop (i + 1) := by
  obtain ⟨hi, e⟩ := List.getElem?_eq_some_iff.mp h
  subst e
  rw [List.getElem_cons_drop, List.take_append_drop]
theorem take_snoc {ys : List α} {i : Nat} {x : α} (h : ys[i]? = some x) : ys.take (i + 1) = ys.take i ++ [x] := by
  rw [List.take_add_one, h]; rfl
theorem for_rng {lo : Int} {n : Nat} (Pv : Nat → L2.St → Hp → Prop) (h0 : Pv 0 σ H)
    (hs : ∀ i σ H, i < n → Pv i σ H → g (.int (lo + i)) σ H fun σ2 H2 => tb ⟨Pv (i + 1), rt, nx, Pv (i + 1)⟩ σ2 H2) (hd : ∀ σ H, Pv n σ H → nx σ H) :
    ∃ W : Nat → Nat → L2.St → Hp → Prop, (∃ m, W 0 m σ H) ∧ ∀ i m σ H, W i m σ H →
      ((Itr lo n).stop i H ∧ nx σ H) ∨ ((Itr lo n).go i H ∧ ∃ N : L2.St → Hp → Prop, (∀ σ' H', N σ' H' → ∃ m', m' < m ∧ W (i + 1) m' σ' H') ∧ ∀ x H', (Itr lo n).yld i H x H' → g x σ H' fun σ2 H2 => tb ⟨N, rt, nx, N⟩ σ2 H2) :=
  for_range (D := ⟨nx, rt, nx, nx⟩) Pv h0 hs hd
end
/-! ### heaps -/
theorem Same.new {H0 H : Hp} {p : Addr} {o : HO} (s : Same H0 H) (h : H p = none) : Same H0 (upd H p o) := fun b u e => by
  rw [upd_ne (ne_of_none (s b u e) h)]; exact s b u e
theorem Same.mut {H0 H : Hp} {p : Addr} {o : HO} (s : Same H0 H) (h : H0 p = none) : Same H0 (upd H p o) := fun b u e => by
  rw [upd_ne (ne_of_none e h)]; exact s b u e
/-! ### a dict with int keys -/
/-! ### lists of ints compared -/
/-! ### the draws of a law -/
/-- the pool at p: a cell, a seed -/
def PoolAt (H : Hp) (p : Addr) : Prop := ∃ c s : Int, H p = some (.lst [.int c, .int s]) ∧ 0 ≤ s ∧ s < 2147483647
/-- only what stands at p may have changed -/
def But (p : Addr) (H H' : Hp) : Prop := ∀ b, b ≠ p → H' b = H b
theorem But.upd {p : Addr} {H : Hp} {o : HO} : But p H (upd H p o) := fun _ h => upd_ne h
theorem But.at {p b : Addr} {H H' : Hp} {o : Option HO} (k : But p H H') (h : H b = o) (n : b ≠ p) : H' b = o := (k b n).trans h
theorem But.same {p : Addr} {H0 H H' : Hp} (k : But p H H') (s : Same H0 H) (n : H0 p = none) : Same H0 H' := fun b o e => (k b (ne_of_none e n)).trans (s b o e)
def sp_pool (K : PySem.W.Frag) : Sp := fun vs H Q _ => ∃ (a : Addr) (ns : List Int) (k : Int), vs = [.ref a, .int k] ∧ SqL K H a (ns.map V.int) ∧ 0 ≤ k ∧ k < 1000 ∧
  ∀ (p : Addr) (c s : Int), H p = none → 0 ≤ s → s < 2147483647 → Q (.ref p) (upd H p (.lst [.int c, .int s]))
theorem x_pool {K : PySem.W.Frag} {H : Hp} {Q : VK} {E : XK} {a : Addr} {k : Int} {ns : List Int} (S : SqL K H a (ns.map V.int)) (k0 : 0 ≤ k) (k1 : k < 1000) (h : ∀ (p : Addr) (H' : Hp), H p = none → PoolAt H' p → But p H H' → Q (.ref p) H') : sp_pool K ([V.ref a, .int k] ++ []) H Q E :=
  ⟨a, ns, k, rfl, S, k0, k1, fun p c s hp s0 s1 => h p _ hp ⟨c, s, upd_same, s0, s1⟩ But.upd⟩
theorem PoolAt.sees {p : Addr} {H H' : Hp} (h : PoolAt H p) (s : Same H H') : PoolAt H' p := by
  obtain ⟨c, z, e, y⟩ := h
  exact ⟨c, z, s _ _ e, y⟩
theorem PoolAt.ne {p q : Addr} {H : Hp} (h : PoolAt H p) (n : H q = none) : p ≠ q := by
  obtain ⟨c, s, e, z⟩ := h
  exact ne_of_none e n
/-! ### steps that call for these -/
theorem x_lc {wi : TI} {g : TG} {tt : TT} {te : TE} {vs : List Nat} {σ : L2.St} {H : Hp} {Q : VK} (h : wi σ H fun J H1 => ∀ D, H1 D = none → ∃ W : Nat → Nat → Hp → Prop, (∃ m, W 0 m (upd H1 D (.lst []))) ∧ ∀ i m H, W i m H →
  (J.stop i H ∧ Q (.ref D) H) ∨ (J.go i H ∧ ∃ Nx : Hp → Prop, (∀ H', Nx H' → ∃ m', m' < m ∧ W (i + 1) m' H') ∧ ∀ x H', J.yld i H x H' → g x (wipe σ vs) H' fun σ2 H2 => wipe σ2 vs = wipe σ vs ∧ tt σ2 H2 fun b H3 =>
    if b = true then te σ2 H3 fun y H4 => ∃ acc, H4 D = some (.lst acc) ∧ acc.length < sizeLine ∧ Nx (upd H4 D (.lst (acc ++ [y]))) else Nx H3)) : tLc wi g tt te vs σ H Q := h

/-! ### a def of the module, as its callers need it -/
structure Cl (P : Program) (w : World) (K : PySem.W.Frag) (mg : Str → Option Value) (base : Heap) (x : Str) (ps : List Str) (k : Nat) (sp : Sp) : Prop where
  ex : ∃ fd, FnOk P w K mg base CX0 k (He.ga K x) fd ps sp ∧ Binds K fd ps []
  kp : PySem.W.keepIn K (.ref (He.ga K x)) = true
  g : mg x = some (.ref (He.ga K x))
theorem pe_cl {X : Cx} {k : Nat} {ps : List Str} {sp : Sp} {x : Str} {p pos : Pos} {e : Expr} {es : List Expr} {t : TA} (C : Cl X.prog X.w X.K X.mg X.base x ps k sp) (hr : Room k X.A) (hg : Gl X x)
    (ha : PA X (e :: es) t) (hdb : (x == ("__debug__" : Str)) = false := by decide) (he : starEach (e :: es) X.env = (false, eval e X.env) :: starEach es X.env := by rfl) (hpl : (backTo pos (starEach es X.env)).any (·.1) = false := by rfl) :
    PE X (.Call (.Name x p) (e :: es) [] pos) (tCall sp [] E0 t) := by
  obtain ⟨fd, F, b⟩ := C.ex
  exact pe_call F hr hg C.g C.kp b .nil pass0 ha hdb he hpl
section
variable {X : Cx}
end
end My


section
/-! ### own special methods -/
namespace My
open PySem PySem.Spec PyProof.Rows L2
section
variable {X : Cx} {CX : CXT} {k : Nat} {C a dx f : Addr} {fs : List (Str × V)} {fd : FuncData} {ps : List Str} {sp : Sp} {E : XK} {pins : List (Addr × Obj)} {σ : L2.St} {H : Hp} {s : Shared}
end
end My

end

section
/-! ### != by an own __eq__, where __ne__ is object's -/
namespace My
open PySem PySem.Spec PyProof.Rows L2
section
open PySem.W
variable {prog : Program} {w : World} {A : Around} {E : Value → Shared → Prop} {K : Frag} {x C f : Addr} {ox : Obj} {od : Option Obj} {u tb : Value}
end
section
variable {X : Cx} {CX : CXT} {k : Nat} {C : Addr} {ps : List Str} {sp : Sp} {E : XK}
end
end My

end

section
/-! ### defs that are called where nothing is being shown: repr of lists, tuples, dicts -/
namespace My
open PySem PySem.Spec PyProof.Rows L2
/-- as FnOk, at surroundings without guards -/
structure FnG (P : Program) (w : World) (K : PySem.W.Frag) (mg : Str → Option Value) (base : Heap) (CX : CXT) (k : Nat) (f : Addr) (fd : FuncData) (ps : List Str) (sp : Sp) : Prop where
  len : ∀ vs H Q E, sp vs H Q E → vs.length = ps.length
  run : ∀ (A : Around) (outer : List Env) (s : Shared) (H : Hp) (args : Args) (us : List Value) (vs : List V) (Q : VK) (E : XK), A.guards = some [] → Room k A → Env0 P w K mg base A outer s H → BindsTo s fd args (ps.zip us) → Vals vs us → sp vs H Q E →
    codeAny (model P w) A (.call (.ref f) args) (CR CX outer P w H s Q E) s
section
variable {P : Program} {w : World} {K : PySem.W.Frag} {mg : Str → Option Value} {base : Heap} {CX : CXT} {x qual : Str} {params : Arguments} {body : List Stmt} {scope : Scope} {dvs : List V} {kws : List (Str × V)} {f : Addr} {fd : FuncData}
theorem FunD.okG {N ps : List Str} {k : Nat} {sp : Sp} (F : FunD K x qual params body scope dvs kws f fd) (S : FnScope N ps scope) (len : ∀ vs H Q E, sp vs H Q E → vs.length = ps.length)
    (hbody : ∀ (cdv : Value) (A : Around) (outer : List Env) (s : Shared) (H : Hp) (vs : List V) (Q : VK) (E : XK), A.guards = some [] → Room k (A.deeper (envOfC qual scope s.heap.objs.size f cdv)) → sp vs H Q E →
      ∃ t, PSs (cxOf CX P w K mg base N qual scope f cdv A outer s H E) body t ∧ t { nx := fun _ H' => Q .non H', rt := Q } (start N vs) H) : FnG P w K mg base CX (k + 1) f fd ps sp := by
  obtain ⟨oc, od, dV, kV, doc, pm, an, cdv, ct, osl, rfl, lk, hcd, _, _⟩ := F.ex
  refine ⟨len, fun A outer s H args us vs Q E hg hr e0 hb r hsp => ?_⟩
  -- what this one entry asks, as a promise that no other entry can meet
  have keep : ∀ b o, base.get? b = some o → s.heap.get? b = some o := fun b o e => (e0.bs b o e).1
  have X : K.In s.heap := e0.mod.kin.keeps keep
  have nl : s.heap.NoLimit := e0.mod.nolimit.keeps keep
  have hl := len _ _ _ _ hsp
  have kinds : ∀ y ∈ ps.zip us, scope.names.lookup y.1 = some .local ∨ (scope.names.lookup y.1 = some .cell ∧ ((cellsFrom (s.heap.objs.size + 1) scope.names []).lookup y.1).isSome = true) := by
    intro y hy
    exact (S.par y.1 (List.of_mem_zip (a := y.1) (b := y.2) hy).1).imp id fun q => ⟨q, PySem.W.cellsFrom_some _ _ _ (.inl q)⟩
  obtain ⟨t, ht, hq⟩ := hbody cdv A outer s H vs Q E hg (hr.deeper _) hsp
  refine codeAny_call_function hr.depth (X _ _ lk) rfl S.co S.gen rfl (PySem.W.codeRec_of X hcd) (hb _ _ _ _ (wpAny_newFunctionEnv_cells S.kind kinds fun env he s1 x => ?_))
  subst he
  refine ⟨nl.keeps x.toInCall.keep, codeAny_func (wpAny_mono (ht.run [] s1 (start N vs) H _ (inv_start S hr.hd e0 hl r x) hq) (fun fl s' hs => ?_) fun e s' hs => hs)⟩
  match fl, hs with
  | .ret u, ⟨v, σ', H', J, rv, q⟩ => exact ⟨v, H', J.os, J.bare, J.base, J.hok, rv, q⟩
  | .next, ⟨σ', H', J, q⟩ => exact ⟨V.non, H', J.os, J.bare, J.base, J.hok, rfl, q⟩
  | .brk, ⟨_, _, _, q⟩ => exact False.elim q
  | .cont, ⟨_, _, _, q⟩ => exact False.elim q
end
/-! ### the law's end over such a def -/
/-- a law that stands at fa, its script at a: the promise at the surroundings of a law's call -/
theorem callG {P : Program} {w : World} {K : PySem.W.Frag} {mg mb : Str → Option Value} {CX : CXT} {k : Nat} {fa a : Addr} {fd : FuncData} {x : Str} {sp : Sp} {s₁ : Shared} {vs : List Value} {ns : List Int}
    (KX : K.In s₁.heap) (hns : s₁.heap.Ns mainGlobals mg) (hb : s₁.heap.Ns builtinsNs mb) (hbb : ∀ x : Str, x ≠ "__name__" → mb x = bootBuiltins x) (hlim : s₁.heap.NoLimit) (hg : s₁.gens = #[])
    (ha : s₁.heap.get? a = some { cls := .type "list", data := .seq vs.toArray }) (hi : IntsAre vs ns) (hl : ns.length ≤ sizeLine) (hr : Room k callerA)
    (F : ∀ base : Heap, K.In base → base.Ns mainGlobals mg → FnG P w K mg base CX k fa fd [x] sp) (hbind : ∀ (s : Shared) (u : Value), BindsTo s fd ⟨[u], []⟩ [(x, u)])
    (hsp : ∀ H : Hp, Only H → SqL K H a (ns.map V.int) → sp [.ref a] H (fun v _ => v = .bl true) fun _ _ _ => False) (hCX : ∀ H e s', CX [] H s₁ (fun _ _ _ => False) e s' → False) :
    codeAny (model P w) callerA (.call (.ref fa) ⟨[.ref a], []⟩) (fun r s' => r = .ok (.ret (.bool true)) ∧ OldK s₁.heap s'.heap ∧ s'.os = s₁.os ∧ AllBare s'.gens) s₁ := by
  obtain ⟨rv, lenV⟩ : Vals (ns.map V.int) vs ∧ vs.length = ns.length := ⟨vals_ints hi, hi.length⟩
  let ob : Obj := { cls := .type "list", data := .seq vs.toArray }
  -- what is tracked: nothing, or the script
  suffices go : ∀ H : Hp, (∀ b u, H b = some u → b = a ∧ u = .frz ob (.lst (ns.map V.int)) ∧ K.lookup a = none) → SqL K H a (ns.map V.int) →
      codeAny (model P w) callerA (.call (.ref fa) ⟨[.ref a], []⟩) (fun r s' => r = .ok (.ret (.bool true)) ∧ OldK s₁.heap s'.heap ∧ s'.os = s₁.os ∧ AllBare s'.gens) s₁ by
    cases hk : K.lookup a with
    | some o =>
      have e : o = ob := by have := KX a o hk; rw [ha] at this; exact (Option.some.inj this).symm
      subst e
      exact go (fun _ => none) (fun b u z => nomatch (show (none : Option HO) = some u from z)) (.inr ⟨_, vs.toArray, _, hk, rfl, rfl, rfl, by rw [List.size_toArray, lenV]; exact hl, by simpa using rv⟩)
    | none =>
      refine go (fun b => if b = a then some (.frz ob (.lst (ns.map V.int))) else none) (fun b u z => ?_) (.inl (.inr ⟨ob, if_pos rfl⟩))
      by_cases hb : b = a
      · have z' : some (HO.frz ob (.lst (ns.map V.int))) = some u := (if_pos hb).symm.trans z
        exact ⟨hb, (Option.some.inj z').symm, hk⟩
      · have z' : none = some u := (if_neg hb).symm.trans z
        cases z'
  intro H hH hS
  have hO : Only H := fun b => by
    cases q : H b with
    | none => exact .inl rfl
    | some u => exact .inr ⟨ob, _, congrArg some (hH b u q).2.1⟩
  have hok : HOk P w H s₁.heap := fun b u q => by
    obtain ⟨rfl, rfl, _⟩ := hH b u q
    exact ⟨ha, by rw [List.length_map]; exact hl, vs, _, rv, ha⟩
  have free : ∀ {b : Addr}, b ≠ a ∨ K.lookup a ≠ none → H b = none := fun {b} h => by
    cases q : H b with
    | none => rfl
    | some u =>
      obtain ⟨e1, _, e2⟩ := hH b u q
      exact (h.elim (fun z => z e1) fun z => z e2).elim
  have ns_of : ∀ {b : Addr} {m : Str → Option Value}, s₁.heap.Ns b m → (hidT s₁.heap H).Ns b m := fun {b m} ⟨o, es, ep, e, d, r⟩ => by
    refine ⟨o, es, ep, hidT_get e (free (.inl fun z => ?_)), d, r⟩
    rw [z, ha] at e
    rw [← Option.some.inj e] at d
    exact nomatch (show Data.seq vs.toArray _ = Data.dict es ep from d)
  have hKb : K.In (hidT s₁.heap H) := fun b o e => hidT_get (KX b o e) (by
    by_cases hb : b = a
    · exact free (.inr (by rw [← hb, e]; exact fun z => nomatch z))
    · exact free (.inl hb))
  have e0 : Env0 P w K mg (hidT s₁.heap H) callerA [] s₁ H :=
    ⟨rfl, ⟨hKb, ns_of hns, ⟨mb, ns_of hb, hbb⟩, let ⟨mc, h1, h2⟩ := hlim; ⟨mc, ns_of h1, h2⟩⟩, fun _ _ e => of_hidT e, Nat.le_of_eq (hidT_size _ _), trivial, fun b z => absurd z (List.not_mem_nil), hok, .of_eq hg⟩
  refine codeAny_mono ((F _ hKb (ns_of hns)).run callerA [] s₁ H ⟨[.ref a], []⟩ [.ref a] [.ref a] _ _ rfl hr e0 (hbind s₁ (.ref a)) (.cons rfl .nil) (hsp H hO hS)) fun r s' h => ?_
  match r, h with
  | .error e, h => exact (hCX H e s' h).elim
  | .ok .next, h => exact False.elim h
  | .ok .brk, h => exact False.elim h
  | .ok .cont, h => exact False.elim h
  | .ok (.ret u), ⟨v, H', os, bare, un, hok', rv', q⟩ =>
    obtain rfl : v = .bl true := q
    obtain rfl : u = Value.bool true := rv'
    refine ⟨rfl, OldK.of_keep fun b o e => ?_, os, bare⟩
    cases q : H b with
    | none => exact un.keep b o e q List.not_mem_nil List.not_mem_nil
    | some u =>
      obtain ⟨rfl, rfl, _⟩ := hH b u q
      obtain ⟨e2, _⟩ := hok' b _ (un.frzs b ob _ q)
      rw [ha] at e
      rw [← Option.some.inj e]
      exact e2
theorem walk_ofG {l : PySem.W.OpenLaw} {n k : Nat} {q : Program} {loose : List Str} {XP : (Str → Option Value) → Heap → Prop} {YP : World → Heap → Prop} {d : DefRec} {CX : World → CXT} {x : Str}
    (hn : l.most = some n) (hn2 : n ≤ sizeLine) (hdf : d.params.defaults = []) (hr : Room k callerA)
    (F : ∀ (w : World) (mg : Str → Option Value) (fa : Addr) (h : Heap), YP w h → h.Ns mainGlobals mg → mg d.name = some (.ref fa) →
      ∃ (K : PySem.W.Frag) (fd : FuncData) (sp : Sp), K.In h ∧ (∀ (s : Shared) (u : Value), BindsTo s fd ⟨[u], []⟩ [(x, u)]) ∧
        (∀ (H : Hp) (a : Addr) (ns : List Int), ns.length ≤ n → (∀ z ∈ ns, Builtin.Int.intBits z ≤ 1048576) → Only H → SqL K H a (ns.map V.int) → sp [.ref a] H (fun v _ => v = .bl true) fun _ _ _ => False) ∧
        ∀ base : Heap, K.In base → base.Ns mainGlobals mg → FnG l.prog w K mg base (CX w) k fa fd [x] sp)
    (hCX : ∀ (w : World) (H : Hp) (s : Shared) (e : Value) (s' : Shared), CX w [] H s (fun _ _ _ => False) e s' → False) :
    PySem.W.WalkO q loose XP YP l.row.toRowW d [] (fun f vs => PySem.call f vs) := by
  refine Att.attach_callB hn hdf fun w s₀ s₁ mg mb fa o pm cd doc a vs ns G Y ho hd hcd hmg hobj hints hlen hbits hg => ?_
  obtain ⟨K, fd, sp, KX, hb, hsp, hF⟩ := F w mg fa _ Y G.T.g hmg
  exact callG KX G.T.g G.T.b G.T.builtins G.T.nolimit hg hobj hints (Nat.le_trans hlen hn2) hr hF hb (fun H hO hS => hsp H a ns hlen hbits hO hS) fun H e s' => hCX w H s₁ e s'
/-! ### repr(x) of data at any depth -/
end My

end

section
/-! ### the head's facts: defs and facts by names, and one more Bool -/
namespace My
open PySem PySem.Spec PyProof.Rows L2
def hookM (n : Nat) (fa : List He.Fa) (fn : List He.DefD) (ex : PySem.W.Frag → Bool) : PySem.W.Hook where
  α := He.AlD × Bool
  obs := fun s => (He.obsDG n fa fn s.heap.get?, ex (He.frG s.heap.get? (He.asD s.heap.get? n)))
  val := fun _ => (He.valD fn, true)
  says := fun _ h => ∃ K : PySem.W.Frag, K.In h ∧ He.SaysD fa fn K ∧ ex K = true
  of := fun _ _ e => ⟨_, He.frG_in, congrArg (fun z : He.AlD × Bool => z.1) e, congrArg (fun z : He.AlD × Bool => z.2) e⟩
  keeps := fun _ _ _ ⟨K, hK, c⟩ k => ⟨K, PySem.W.Frag.In.keeps hK k, c⟩
def obM (n : Nat) (fa : List He.Fa) (fn : List He.DefD) (ex : PySem.W.Frag → Bool) (s : PySem.W.SharedT) : He.AlD × Bool :=
  (He.obsDG n fa fn (HandSHeadRun.getT s), ex (He.frG (HandSHeadRun.getT s) (He.asD (HandSHeadRun.getT s) n)))
theorem obM_eq (n : Nat) (fa : List He.Fa) (fn : List He.DefD) (ex : PySem.W.Frag → Bool) (s : PySem.W.SharedT) : obM n fa fn ex s = (hookM n fa fn ex).obs s.abs := by
  have e : HandSHeadRun.getT s = s.abs.heap.get? := funext (HandSHeadRun.getT_eq s)
  unfold obM
  rw [e] <;> rfl
theorem ba {a b : Bool} (h : (a && b) = true) : a = true ∧ b = true := Bool.and_eq_true_iff.mp h
section
variable {K : PySem.W.Frag} {mg : Str → Option Value}
/-- what __init__ of such an exception does -/
def sp_exc (K : PySem.W.Frag) (x f : Str) : Sp := fun vs H Q _ => ∃ (a : Addr) (v : V), vs = [.ref a, v] ∧ H a = some (exo a (He.ga K x) none) ∧
  ∀ dx, H dx = none → dx ≠ a → Q .non (upd (upd H dx (exd dx [(f, v)])) a (exo a (He.ga K x) (some dx)))
end
section
variable {P : Program} {w : World} {K : PySem.W.Frag} {mg : Str → Option Value} {base : Heap} {CX : CXT}
end
section
variable {X : Cx} {CX : CXT} {k : Nat} {ps : List Str} {sp : Sp} {E : XK} {x m : Str} {p pos apos : Pos} {o e : Expr} {es : List Expr} {t : TA} {ta : TE}
end
end My

end

section
/-! ### more steps: fields, methods, isinstance, exceptions, locks -/
namespace My
open PySem PySem.Spec PyProof.Rows L2
section
variable {σ : L2.St} {H : Hp} {Q : VK} {nx bk ct : L2.St → Hp → Prop} {rt : VK} {t t1 t2 u : TS} {te ta tb tc tv : TE} {c d : TT} {g : TG} {x y v w : V} {K : PySem.W.Frag} {f m : Str} {E : XK}
theorem x_cat {a b : Addr} {xs ys : List V} (h : H a = some (.lst xs)) (h' : H b = some (.lst ys)) (l : xs.length + ys.length ≤ sizeLine) (k : ∀ p, H p = none → Q (.ref p) (upd H p (.lst (xs ++ ys)))) : rCat (.ref a) (.ref b) H Q := ⟨a, b, xs, ys, rfl, rfl, h, h', l, k⟩
end
end My

end

section
/-! ### loops over anything that is walked, by what is behind and ahead -/
namespace My
open PySem PySem.Spec PyProof.Rows L2
/-- J walks the things ys while G holds; a turn hands on a value, and the heap then, as it tells -/
structure Runs {α : Type} (J : It) (ys : List α) (G : Hp → Prop) (it : Nat → α → Hp → V → Hp → Prop) : Prop where
  go : ∀ i x H, ys[i]? = some x → G H → J.go i H
  stop : ∀ i H, ys.length ≤ i → G H → J.stop i H
  yld : ∀ i x H v H', ys[i]? = some x → G H → J.yld i H v H' → it i x H v H'
section
variable {α : Type} {J : It} {ys : List α} {G : Hp → Prop} {it : Nat → α → Hp → V → Hp → Prop} {g : TG} {tb : TS} {σ : L2.St} {H : Hp} {nx : L2.St → Hp → Prop} {rt : VK}
theorem for_runs (R : Runs J ys G it) (Pv : List α → L2.St → Hp → Prop) (h0 : Pv [] σ H) (hl : ∀ pre post σ H, ys = pre ++ post → Pv pre σ H → G H)
    (hs : ∀ pre x post σ H v H', ys = pre ++ x :: post → Pv pre σ H → it pre.length x H v H' → g v σ H' fun σ2 H2 => tb ⟨Pv (pre ++ [x]), rt, nx, Pv (pre ++ [x])⟩ σ2 H2) (hd : ∀ σ H, Pv ys σ H → nx σ H) :
    ∃ W : Nat → Nat → L2.St → Hp → Prop, (∃ m, W 0 m σ H) ∧ ∀ i m σ H, W i m σ H →
      (J.stop i H ∧ nx σ H) ∨ (J.go i H ∧ ∃ N : L2.St → Hp → Prop, (∀ σ' H', N σ' H' → ∃ m', m' < m ∧ W (i + 1) m' σ' H') ∧ ∀ x H', J.yld i H x H' → g x σ H' fun σ2 H2 => tb ⟨N, rt, nx, N⟩ σ2 H2) := by
  refine ⟨fun i m σ H => m = ys.length - i ∧ i ≤ ys.length ∧ Pv (ys.take i) σ H, ⟨ys.length, by simp, Nat.zero_le _, h0⟩, ?_⟩
  rintro i m σ H ⟨rfl, hi, p⟩
  have q := hl _ (ys.drop i) σ H (List.take_append_drop i ys).symm p
  by_cases hlt : i < ys.length
  · have hx : ys[i]? = some ys[i] := List.getElem?_eq_getElem hlt
    refine .inr ⟨R.go i _ H hx q, Pv (ys.take (i + 1)), fun σ' H' p' => ⟨ys.length - (i + 1), by omega, rfl, hlt, p'⟩, fun v H' y => ?_⟩
    have hy := R.yld i _ H v H' hx q y
    have hlen : (ys.take i).length = i := by rw [List.length_take, Nat.min_eq_left hi]
    have := hs _ _ _ σ H v H' (getElem?_split hx) p (by rw [hlen]; exact hy)
    rw [← take_snoc hx] at this
    exact this
  · have e : i = ys.length := by omega
    subst e
    rw [List.take_length] at p
    exact .inl ⟨R.stop _ H (Nat.le_refl _) q, hd σ H p⟩
theorem lc_runs {tt : TT} {te : TE} {vs : List Nat} {H1 : Hp} {D : Addr} {Qd : Hp → Prop} (R : Runs J ys G it) (Pv : List α → Hp → Prop) (h0 : Pv [] (upd H1 D (.lst []))) (hl : ∀ pre post H, ys = pre ++ post → Pv pre H → G H)
    (hs : ∀ pre x post H v H', ys = pre ++ x :: post → Pv pre H → it pre.length x H v H' → g v (wipe σ vs) H' fun σ2 H2 => wipe σ2 vs = wipe σ vs ∧ tt σ2 H2 fun b H3 =>
      if b = true then te σ2 H3 fun y H4 => ∃ acc, H4 D = some (.lst acc) ∧ acc.length < sizeLine ∧ Pv (pre ++ [x]) (upd H4 D (.lst (acc ++ [y]))) else Pv (pre ++ [x]) H3) (hd : ∀ H, Pv ys H → Qd H) :
    ∃ W : Nat → Nat → Hp → Prop, (∃ m, W 0 m (upd H1 D (.lst []))) ∧ ∀ i m H, W i m H →
      (J.stop i H ∧ Qd H) ∨ (J.go i H ∧ ∃ Nx : Hp → Prop, (∀ H', Nx H' → ∃ m', m' < m ∧ W (i + 1) m' H') ∧ ∀ x H', J.yld i H x H' → g x (wipe σ vs) H' fun σ2 H2 => wipe σ2 vs = wipe σ vs ∧ tt σ2 H2 fun b H3 =>
        if b = true then te σ2 H3 fun y H4 => ∃ acc, H4 D = some (.lst acc) ∧ acc.length < sizeLine ∧ Nx (upd H4 D (.lst (acc ++ [y]))) else Nx H3) := by
  refine ⟨fun i m H => m = ys.length - i ∧ i ≤ ys.length ∧ Pv (ys.take i) H, ⟨ys.length, by simp, Nat.zero_le _, h0⟩, ?_⟩
  rintro i m H ⟨rfl, hi, p⟩
  have q := hl _ (ys.drop i) H (List.take_append_drop i ys).symm p
  by_cases hlt : i < ys.length
  · have hx : ys[i]? = some ys[i] := List.getElem?_eq_getElem hlt
    refine .inr ⟨R.go i _ H hx q, Pv (ys.take (i + 1)), fun H' p' => ⟨ys.length - (i + 1), by omega, rfl, hlt, p'⟩, fun v H' y => ?_⟩
    have hy := R.yld i _ H v H' hx q y
    have hlen : (ys.take i).length = i := by rw [List.length_take, Nat.min_eq_left hi]
    have := hs _ _ _ H v H' (getElem?_split hx) p (by rw [hlen]; exact hy)
    rw [← take_snoc hx] at this
    exact this
  · have e : i = ys.length := by omega
    subst e
    rw [List.take_length] at p
    exact .inl ⟨R.stop _ H (Nat.le_refl _) q, hd H p⟩
end
/-! what is walked -/
section
variable {K : PySem.W.Frag} {a b d : Addr} {α : Type} {f : α → V} {ys : List α}
theorem runs_list (f : α → V) (ys : List α) : Runs (Itl K a) ys (fun H => SqL K H a (ys.map f)) (fun _ x H v H' => v = f x ∧ H' = H) where
  go i x H hx q := ⟨_, f x, q, by rw [List.getElem?_map, hx]; rfl⟩
  stop i H hi q := ⟨_, q, by rw [List.length_map]; exact hi⟩
  yld i x H v H' hx q y := by
    obtain ⟨rfl, y⟩ := y
    have := y _ q
    rw [List.getElem?_map, hx] at this
    exact ⟨(Option.some.inj this).symm, rfl⟩
end
end My

end

section
/-! ### dicts of ints to True; repr of an empty dict; classes that may raise when made -/
namespace My
open PySem PySem.Spec PyProof.Rows L2
section
variable {X : Cx}
/-! a class that may raise when made -/
variable {CX : CXT} {k : Nat} {ps : List Str} {sp : Sp} {dvs : List V} {E : XK} {x : Str} {p pos : Pos} {e : Expr} {es : List Expr} {t : TA}
end
end My

end

section
/-! ### more steps: raising, tuples walked, isinstance read by kinds -/
namespace My
open PySem PySem.Spec PyProof.Rows L2
section
variable {σ : L2.St} {H : Hp} {Q : VK} {nx bk ct : L2.St → Hp → Prop} {rt : VK} {te to : TE} {ta : TA} {K : PySem.W.Frag} {x f : Str} {v : V}
end
section
variable {K : PySem.W.Frag} {H H' : Hp}
end
end My

end

section
/-! ### own exceptions over any built-in base, with an __init__ of their own -/
namespace My
open PySem PySem.Spec PyProof.Rows L2
section
open Builtin Builtin.ObjectAttr PySem.W PySem.HandSPX
variable {prog : Program} {w : World} {A : Around} {R : Result → Shared → Prop} {hp : Heap} {g : Array GenState} {d : Drawn} {t : Nat} {os : OsState} {K : PySem.W.Frag} {B : String} {bmB : List Value} {x C : Addr} {fv : Array Value} {name : Str} {tk : Tok} {v : Value}
/-- the first field of an exception: its dict is made -/
theorem osa_g (SF : StoreFacts B bmB "object.__setattr__" "object") (X : K.In hp) (hx : hp.get? x = some { cls := .ref C, data := .fields fv }) (ov : excOver K C bmB = true) (hh : hasDictIn K C = true) (ha : findIn K (.ref C) name = some none)
    (hq : ∀ h' tk' dx, (∀ b o, b ≠ x → hp.get? b = some o → h'.get? b = some o) → hp.objs.size ≤ dx → dx ≠ x → h'.get? x = some { cls := .ref C, dict := some dx, data := .fields fv } →
      h'.Ns1 dx (fun y => if y = name then some v else none) → R (.ok (.ret .none)) ⟨h', g, d, tk', os⟩) :
    codeAny (model prog w) A (.call (.builtin "object.__setattr__") ⟨[.ref x, .str name tk, v], []⟩) R ⟨hp, g, d, t, os⟩ := by
  have I : InstAt hp x { cls := .ref C, data := .fields fv } C none := ⟨hx, rfl, rfl, trivial⟩
  obtain ⟨cd, hcd, hd⟩ := any_some hh
  have hcls : Looks (model prog w) hp (classData C) cd := looks_clsIn X hcd
  have hxs : x ≠ hp.objs.size := Nat.ne_of_lt (Heap.lt_size hx)
  refine osa_openX (s := ⟨hp, g, d, t, os⟩) SF X I ov (NoAttr.taker ha) fun b => ?_
  show wpAny _ _ (storeInOwnDict (.ref x) (.ref C) (.str name tk) name v b) _ _ _
  obtain ⟨nm, bs, mro, ns, qn, hdc, sn, sb, ab, col, del⟩ := cd
  dsimp only at hd
  subst hd
  unfold storeInOwnDict ownDictForStores
  repeat (first | with_reducible refine store_in_new ?_ ?_ | with_reducible refine wpAny_loadPart_at hx ?_ | with_reducible refine hcls.at ?_ | wp_step)
  · exact ⟨_, #[], _, (Heap.get?_update_ne _ _ _ _ hxs.symm).trans (Heap.get?_push_at rfl rfl), rfl, fun e he => absurd he (by simp), fun _ => rfl⟩
  · intro h' tk' hn' hs
    refine hq h' tk' hp.objs.size (fun b o hb ho => ?_) (Nat.le_refl _) hxs.symm ?_ hn'
    · exact (hs.2 b (Nat.ne_of_lt (Heap.lt_size ho))).trans ((Heap.get?_update_ne _ _ _ _ hb).trans (Heap.get?_push_of_some _ ho))
    · exact (hs.2 x hxs).trans (Heap.get?_update_self _ (Heap.get?_push_of_some { cls := .type "dict", data := .dict #[] } hx) rfl)
/-- a further field -/
theorem osa_g2 {dx : Addr} {m0 : Str → Option Value} {nl : List Str} (SF : StoreFacts B bmB "object.__setattr__" "object") (X : K.In hp) (hx : hp.get? x = some { cls := .ref C, dict := some dx, data := .fields fv }) (hns : hp.Ns1 dx m0) (hw : Within m0 nl) (hz : nl.length ≤ 1000)
    (ov : excOver K C bmB = true) (hh : hasDictIn K C = true) (ha : findIn K (.ref C) name = some none)
    (hq : ∀ h' tk', (∀ b o, b ≠ dx → hp.get? b = some o → h'.get? b = some o) → h'.Ns1 dx (fun y => if y = name then some v else m0 y) → R (.ok (.ret .none)) ⟨h', g, d, tk', os⟩) :
    codeAny (model prog w) A (.call (.builtin "object.__setattr__") ⟨[.ref x, .str name tk, v], []⟩) R ⟨hp, g, d, t, os⟩ := by
  obtain ⟨oD, esD, epD, hoD, hdD, _⟩ := hns.count hw
  have I : InstAt hp x { cls := .ref C, dict := some dx, data := .fields fv } C (some oD) := ⟨hx, rfl, rfl, hoD⟩
  obtain ⟨cd, hcd, hd⟩ := any_some hh
  have hcls : Looks (model prog w) hp (classData C) cd := looks_clsIn X hcd
  refine osa_openX (s := ⟨hp, g, d, t, os⟩) SF X I ov (NoAttr.taker ha) fun b => ?_
  show wpAny _ _ (storeInOwnDict (.ref x) (.ref C) (.str name tk) name v b) _ _ _
  obtain ⟨nm, bs, mro, ns, qn, hdc, sn, sb, ab, col, del⟩ := cd
  dsimp only at hd
  subst hd
  unfold storeInOwnDict ownDictForStores
  repeat (first | with_reducible refine PySem.OEX.store_in_old hns hw hz ?_ | with_reducible refine wpAny_loadPart_at hx ?_ | with_reducible refine hcls.at ?_ | wp_step)
  intro h' tk' hn' hs
  exact hq h' tk' (fun b o hb ho => (hs.2 b hb).trans ho) hn'
end
/-- an own exception class over the built-in B -/
structure ExG (K : PySem.W.Frag) (C : Addr) (newId : String) (bmB : List Value) : Prop where
  q : PySem.W.excInitIn K C bmB newId = true
  ov : PySem.W.excOver K C bmB = true
  hd : PySem.W.hasDictIn K C = true
  sa : PySem.W.findIn K (.ref C) "__setattr__" = some (some (.builtin "object.__setattr__"))
  exC : PySem.W.subIn K (.ref C) (.type "BaseException") = some true
  tyC : PySem.W.typeIn K (.ref C) = some (.type "type")
  kC : PySem.W.keepIn K (.ref C) = true
/-- the built-in's own facts -/
structure BsF (B newId initId : String) (bmB : List Value) : Prop where
  FB : ExcBaseFacts B newId initId bmB
  SF : StoreFacts B bmB "object.__setattr__" "object"
  ty : typeOf (.type B) = pure (.type "type")
  st : Manifest.isStub B = false
  hi : PySem.W.handedIn (.builtin initId) = true
theorem bs_VE : BsF "ValueError" "ValueError.__new__" "ValueError.__init__" [.type "ValueError", .type "Exception", .type "BaseException", .type "object"] := ⟨PySem.F.excBase_ValueError, PySem.F.store_ValueError, by kernel_rfl, by decide +kernel, by decide +kernel⟩
theorem bs_RE : BsF "RuntimeError" "RuntimeError.__new__" "RuntimeError.__init__" [.type "RuntimeError", .type "Exception", .type "BaseException", .type "object"] := ⟨PySem.F.excBase_RuntimeError, PySem.F.store_RuntimeError, by kernel_rfl, by decide +kernel, by decide +kernel⟩
theorem bs_LE : BsF "LookupError" "LookupError.__new__" "LookupError.__init__" [.type "LookupError", .type "Exception", .type "BaseException", .type "object"] := ⟨PySem.F.excBase_LookupError, PySem.F.store_LookupError, by kernel_rfl, by decide +kernel, by decide +kernel⟩
theorem bs_OE : BsF "OverflowError" "OverflowError.__new__" "OverflowError.__init__" [.type "OverflowError", .type "ArithmeticError", .type "Exception", .type "BaseException", .type "object"] := ⟨PySem.F.excBase_OverflowError, PySem.F.store_OverflowError, by kernel_rfl, by decide +kernel, by decide +kernel⟩
section
variable {X : Cx} {pins : List (Addr × Obj)} {σ : L2.St} {H : Hp} {s : Shared} {a C dx : Addr} {f : Str} {y : V} {u : Value} {fs : List (Str × V)} {E : Value → Shared → Prop} {A : Around} {B newId initId : String} {bmB : List Value}
theorem gst_new {Q : Unit → Shared → Prop} (T : ExG X.K C newId bmB) (F : BsF B newId initId bmB) (I : Inv X pins σ H s) (e : H a = some (exo a C none)) (hno : PySem.W.findIn X.K (.ref C) f = some none) (ry : RelV y u)
    (h : ∀ dx s', H dx = none → dx ≠ a → Inv X pins σ (upd (upd H dx (exd dx [(f, y)])) a (exo a C (some dx))) s' → Q () s') : wpAny (model X.prog X.w) A (setAttr (.ref a) f u) Q E s := by
  obtain ⟨t1, ho⟩ := exo_at I.hok e
  obtain ⟨hp, g, d, t, os⟩ := s
  refine PySem.W.set_plain I.kIn (ox := { cls := .ref C, dict := none, data := .fields #[.ref t1, .none, .none, .none, .bool false, .none] }) (od := none) ⟨ho, rfl, rfl, trivial⟩ T.sa ?_
  refine osa_g F.SF I.kIn ho T.ov T.hd hno fun h' tk' dx k dn dne hx hn => ?_
  have hnd : H dx = none := I.hok.fresh dn
  have nd : ∀ {b : Addr} {o : Obj}, hp.get? b = some o → b ≠ dx := fun {b o} q => Nat.ne_of_lt (Nat.lt_of_lt_of_le (Heap.lt_size q) dn)
  have na : ∀ {b : Addr}, H b = none → b ≠ a := fun {b} n => (ne_of_none e n).symm
  -- what was tracked otherwise than as the exception stands where it stood
  have keepH : ∀ {b : Addr} {o : HO}, H b = some o → o ≠ exo a C none → upd (upd H dx (exd dx [(f, y)])) a (exo a C (some dx)) b = some o := fun {b o} q n => by
    rw [upd_ne (at_ne e q (Ne.symm n)), upd_ne (ne_of_none q hnd)]; exact q
  refine h dx _ hnd dne (I.un (t' := tk') (h' := h') ?_ fun b o q => ?_)
  · exact {
      keep := fun b o q n _ _ => k b o (na n) q
      slot := fun b o q n _ _ => ⟨o.slots, k b o (na n) q⟩
      free := fun b o q n _ => by rw [upd_ne (na n), upd_ne (nd q)]; exact n
      there := fun b o q _ => if hb : b = a then ⟨_, hb ▸ hx⟩ else ⟨o, k b o hb q⟩
      tups := fun b xs q => keepH q (Ne.symm exo_tup)
      frzs := fun b o v q => keepH q (Ne.symm exo_frz)
      tbls := fun b ps q => ⟨#[], by rw [keepH q (Ne.symm exo_tbl)]; simp⟩ }
  · by_cases hb : b = a
    · subst hb
      rw [upd_same] at q
      cases q
      exact exo_ok hx
    · rw [upd_ne hb] at q
      by_cases hd : b = dx
      · subst hd
        rw [upd_same] at q
        cases q
        exact exd_ok hn (relO_put (fs := []) ry fun g => True.intro)
      · rw [upd_ne hd] at q
        refine (I.hok b o q).stay (fun c v hc z => k c v ?_ z) (fun c hc => keepH hc (Ne.symm exo_own)) fun c xs hc => keepH hc (Ne.symm exo_tup)
        rcases hc with rfl | hc
        · exact hb
        · exact at_ne e hc exo_own
theorem gst_old {Q : Unit → Shared → Prop} (T : ExG X.K C newId bmB) (F : BsF B newId initId bmB) (I : Inv X pins σ H s) (e : H a = some (exo a C (some dx))) (ed : H dx = some (exd dx fs)) (hl : fs.length ≤ 900) (hno : PySem.W.findIn X.K (.ref C) f = some none) (ry : RelV y u)
    (h : ∀ s', Inv X pins σ (upd H dx (exd dx ((f, y) :: fs))) s' → Q () s') : wpAny (model X.prog X.w) A (setAttr (.ref a) f u) Q E s := by
  obtain ⟨t1, ho⟩ := exo_at I.hok e
  obtain ⟨mA, hns, rel⟩ := exd_at I.hok ed
  have hw := within_of rel
  obtain ⟨hp, g, d, t, os⟩ := s
  obtain ⟨oD, _, _, hoD, _, _⟩ := hns.count hw
  refine PySem.W.set_plain I.kIn (ox := { cls := .ref C, dict := some dx, data := .fields #[.ref t1, .none, .none, .none, .bool false, .none] }) (od := some oD) ⟨ho, rfl, rfl, hoD⟩ T.sa ?_
  refine osa_g2 F.SF I.kIn ho hns hw (by rw [List.length_map]; omega) T.ov T.hd hno fun h' tk' k hn => ?_
  have new : ObjOk X.prog X.w (upd H dx (exd dx ((f, y) :: fs))) h' dx (exd dx ((f, y) :: fs)) := exd_ok hn (relO_put ry rel)
  exact h _ (I.write (t' := tk') (x := dx) (e := dx) (o := exd dx ((f, y) :: fs)) (by rw [ed]; exact True.intro) (.inl rfl) k (by obtain ⟨o, _, _, e', _⟩ := hn; exact ⟨o, e'⟩) new)
/-- B.__init__(self, ..): the arguments are laid anew -/
theorem ginit_ok {us : List Value} {Q : Value → Shared → Prop} (T : ExG X.K C newId bmB) (F : BsF B newId initId bmB) (I : Inv X pins σ H s) (e : H a = some (exo a C none)) (hl : us.length ≤ sizeLine) (h : ∀ s', Inv X pins σ H s' → Q .none s') :
    wpAny (model X.prog X.w) A (call (.builtin initId) (.ref a :: us)) Q E s := by
  obtain ⟨nm, N, q, bs, bm, hdct, sn, sub, ab, col, dd, k0, k1, k2, k3, k5, hC, hT⟩ := PySem.W.excInit_of I.kIn T.q
  obtain ⟨t1, ho⟩ := exo_at I.hok e
  obtain ⟨hp, g, d, t, os⟩ := s
  refine wpAny_call (PySem.HandSPX.init_base F.FB hT hC ho hl fun h' t2 k hx => ?_)
  have J := I.write (t' := t) (x := a) (e := a) (o := exo a C none) (by rw [e]; exact True.intro) (.inl rfl) k ⟨_, hx⟩ (exo_ok hx)
  have eu : upd H a (exo a C none) = H := funext fun b => by
    by_cases hb : b = a
    · rw [hb, upd_same, e]
    · rw [upd_ne hb]
  exact h _ (eu ▸ J)
end
/-! the readings -/
/-- B.__init__(self, ..) -/
def tGI (K : PySem.W.Frag) (newId : String) (bmB : List Value) (ta : TA) : TE := fun σ H Q => ta σ H fun vs H1 => ∃ (a C : Addr) (ws : List V), vs = .ref a :: ws ∧ ws.length ≤ 1000 ∧ ExG K C newId bmB ∧ H1 a = some (exo a C none) ∧ Q .non H1
/-- self.f = e -/
def tGst (K : PySem.W.Frag) (newId : String) (bmB : List Value) (f : Str) (to te : TE) : TS := fun D σ H => te σ H fun y H1 => to σ H1 fun x H2 => ∃ a C : Addr, x = .ref a ∧ ExG K C newId bmB ∧ PySem.W.findIn K (.ref C) f = some none ∧
  ((H2 a = some (exo a C none) ∧ ∀ dx, H2 dx = none → dx ≠ a → D.nx σ (upd (upd H2 dx (exd dx [(f, y)])) a (exo a C (some dx)))) ∨
    ∃ (dx : Addr) (fs : List (Str × V)), H2 a = some (exo a C (some dx)) ∧ H2 dx = some (exd dx fs) ∧ fs.length ≤ 900 ∧ D.nx σ (upd H2 dx (exd dx ((f, y) :: fs))))
section
variable {X : Cx} {o e : Expr} {es : List Expr} {to te : TE} {ta : TA} {f x : Str} {p p' p1 p2 pos : Pos} {B newId initId : String} {bmB : List Value}
theorem ps_gst (F : BsF B newId initId bmB) (ho : PE X o to) (he : PE X e te) (hs : swapsWith e (some (.Attribute o f p')) pos.line X.env = pure false := by rfl) : PS X (.Assign [.Attribute o f p'] e pos) (tGst X.K newId bmB f to te) := by
  refine ⟨fun pins s σ H D I h => plainObj_wpAny_Assign_Attribute (thn (he.run pins s σ H _ I h) fun v s1 ⟨y, H1, I1, r1, q1⟩ => thn (ho.run pins s1 σ H1 _ I1 q1) fun u s2 ⟨x, H2, I2, r2, a, C, ex, T, hno, q⟩ => ?_) hs⟩
  subst ex
  cases r2
  rcases q with ⟨ea, q⟩ | ⟨dx, fs, ea, ed, hl, q⟩
  · exact gst_new T F I2 ea hno r1 fun dx s' n ne J => ⟨σ, _, J, q dx n ne⟩
  · exact gst_old T F I2 ea ed hl hno r1 fun s' J => ⟨σ, _, J, q⟩
theorem pe_gi {pl : Sem Bool} (F : BsF B newId initId bmB) (hg : Gl X x) (hm : X.mg x = none) (hv : bootBuiltins x = some (.type B)) (vV : PySem.W.findCls X.K (.type B) (.type "type") "__init__" = some (.val (.builtin initId)))
    (ha : PA X (e :: es) ta)
    (hc : eval (.Call (.Attribute (.Name x p1) "__init__" p2) (e :: es) [] pos) X.env = (do
      let ov ← eval (.Name x p1) X.env
      standAt p2.atName
      let (f, first) ← holding [ov] (getMethod ov "__init__" pl)
      callWith pos f first (backTo pos (starEach (e :: es) X.env)) (backToKw pos (keywordEach [] X.env))) := by rfl)
    (hn : x ≠ "__name__" := by decide) (hdb : (x == ("__debug__" : Str)) = false := by decide) (he : starEach (e :: es) X.env = (false, eval e X.env) :: starEach es X.env := by rfl) (hpl : (backTo pos (starEach es X.env)).any (·.1) = false := by rfl) :
    PE X (.Call (.Attribute (.Name x p1) "__init__" p2) (e :: es) [] pos) (tGI X.K newId bmB ta) := by
  refine ⟨fun pins s σ H Q I h => ?_⟩
  refine PySem.W.methodCall_KW (ld_blt I hg hm hv ?_ hn hdb) hc
  obtain ⟨m, fr⟩ := I.fr
  refine PySem.W.method_type fr I.ok.mod.kin F.ty F.st vV F.hi ?_
  show wpAny _ _ (callWith pos (Value.builtin initId) [] (backTo pos (starEach (e :: es) X.env)) []) _ _ _
  refine PyProof.Rows.callWith_method1 (thn (ha.run pos pins _ σ H _ (I.tok _) h) fun us s1 ⟨vs, H1, I1, r1, a, C, ws, ev, hl, T, ea, q⟩ => ?_) he hpl
  subst ev
  cases r1 with
  | cons ra rw' =>
    cases ra
    exact ginit_ok T F I1 ea (by rw [← Paired.length rw', sizeLine_eq]; omega) fun s' J => ⟨.non, H1, J, rfl, q⟩
end
end My

end

section
/-! ### C(k = v, ..): the same with keywords -/
namespace PySem
namespace MyGk
open PySem.W PySem.Calls PyProof.Rows PySem.HandSPX
section
variable {prog : Program} {w : World} {A : Around} {E : Value → Shared → Prop} {R : Result → Shared → Prop} {h : Heap} {g : Array GenState} {d : Drawn} {t : Nat} {os : OsState}
variable {nm q : Str} {C N : Addr} {bs bm bmB : List Value} {hdct : Bool} {sn : List Str} {sub : List Value} {ab : Bool} {col : Option Bool} {dd : Option Addr} {k0 k1 k2 k3 k5 : Option Value} {B newId initId : String} {kw : List (Str × Value)}
theorem gk_check {M : Model} (F : ExcBaseFacts B newId initId bmB) (hT : ∀ X : String, bm.contains (.type X) = bmB.contains (.type X)) {rest : List Value} {Q : Unit → Shared → Prop}
    (hC : h.get? C = some (excClassObj nm q C N bs bm hdct sn sub ab col dd k0 k1 k2 k3 k5 newId)) (hq : Q () ⟨h, g, d, t, os⟩) : wpAny M A (checkBuiltinCall newId ⟨.ref C :: rest, kw⟩) Q E ⟨h, g, d, t, os⟩ := by
  have hcont : (Value.ref C :: bm).contains (.type B) = true := by rw [List.contains_cons, hT, F.hasB, Bool.or_true]
  have hstar := F.noStar
  simp only [checkBuiltinCall, F.newKind, F.newSplit, F.newRow]
  repeat (first | refine wpAny_loadPart_at hC ?_ | (refine wpAny_isSubtype_exc hC ?_; rw [hcont]) | refine wpAny_staticBase_exc hC ?_ | refine wpAny_madeBy_exc hC ?_ | simp only [bne_self_eq_false, Bool.false_eq_true, if_false] | wp_step)
  exact hq
theorem gk_new (F : ExcBaseFacts B newId initId bmB) (hT : ∀ X : String, bm.contains (.type X) = bmB.contains (.type X)) {rest : List Value}
    (hC : h.get? C = some (excClassObj nm q C N bs bm hdct sn sub ab col dd k0 k1 k2 k3 k5 newId))
    (hq : R (.ok (.ret (.ref (h.objs.size + 1)))) ⟨(h.push { cls := .type "tuple", data := .seq rest.toArray }).push
      { cls := .ref C, data := .fields #[.ref h.objs.size, .none, .none, .none, .bool false, .none] }, g, d, t, os⟩) (hrest : rest.length ≤ sizeLine) :
    codeAny (model prog w) A (.builtin newId ⟨.ref C :: rest, kw⟩) R ⟨h, g, d, t, os⟩ := by
  have hends := F.ends
  have hcB : (Value.ref C :: bm).contains (.type B) = true := by rw [List.contains_cons, hT, F.hasB, Bool.or_true]
  have hcA : (Value.ref C :: bm).contains (.type "AttributeError") = false := by rw [List.contains_cons, hT, F.noAttr]; rfl
  have hcN : (Value.ref C :: bm).contains (.type "NameError") = false := by rw [List.contains_cons, hT, F.noName]; rfl
  refine codeAny_builtinAt F.entry ?_
  unfold Builtin.«BaseException.__new__»
  refine wpAt_bind ?_
  show wpAt _ _ _ (stack >>= _) _ _ _
  refine wpAt_bind (wpAt_stack fun p below => wpAt_of_wpAny ?_)
  wp_walk
  refine wpAt_of_wpAny ?_
  rw [F.owner]
  repeat (first | with_reducible refine wpAny_madeHere_exc F.canon hC ?_ | with_reducible refine wpAny_loadPart_at hC ?_ | (with_reducible refine wpAny_isSubtype_exc hC ?_; first | rw [hcB] | rw [hcA] | rw [hcN]) | wp_step)
  show R _ _
  rw [Heap.size_push]
  exact hq
theorem gk_type {rest : List Value} {fI : Addr} {Q : Fin → Shared → Prop} (F : ExcBaseFacts B newId initId bmB) (hT : ∀ X : String, bm.contains (.type X) = bmB.contains (.type X))
    (hC : h.get? C = some (excClassObj nm q C N bs bm hdct sn sub ab col dd k0 k1 k2 k3 k5 newId))
    (hi : W.Looks (model prog w) h (typeLookup (.ref C) "__init__") (some (.ref fI))) (hb : ∀ self, W.Looks (model prog w) h (bindSpecial (.ref fI) self) (.ref fI, [self])) (hrest : rest.length ≤ sizeLine)
    (hq : codeAny (model prog w) A (.call (.ref fI) ⟨.ref (h.objs.size + 1) :: rest, kw⟩)
      (fun r s' => match r with | .ok (.ret v) => v = .none ∧ Q (.done (.ret (.ref (h.objs.size + 1)))) s' | .ok _ => False | .error e => E e s')
      ⟨(h.push (W.kdv_tup rest)).push (excO C h.objs.size), g, d, t, os⟩) :
    wpAny (model prog w) A (Builtin.«type.__call__» ⟨.ref C :: rest, kw⟩) Q E ⟨h, g, d, t, os⟩ := by
  repeat (first | with_reducible refine wpAny_loadPart_at hC ?_ | with_reducible refine wpAny_madeBy_exc hC ?_ | wp_step)
  refine codeAny_call_builtin_code (Code.quiet_builtin _ F.quiet) (gk_check F hT hC ?_)
  refine gk_new F hT hC ?_ hrest
  show wpAny _ _ _ _ _ _
  have k : ∀ b o, h.get? b = some o → ((h.push (W.kdv_tup rest)).push (excO C h.objs.size)).get? b = some o := fun b o e => Heap.get?_push_of_some _ (Heap.get?_push_of_some _ e)
  have hC₁ := k _ _ hC
  have hget : ((h.push (W.kdv_tup rest)).push (excO C h.objs.size)).get? (h.objs.size + 1) = some (excO C h.objs.size) := by heap_get
  have hcC : (Value.ref C :: bm).contains (.ref C) = true := by simp
  have i1 := hi.keeps k
  have b1 := (hb (.ref (h.objs.size + 1))).keeps k
  unfold isInstance
  repeat (first | with_reducible refine wpAny_loadPart_at hget ?_ | (with_reducible refine wpAny_isSubtype_exc hC₁ ?_; rw [hcC]) | wp_step)
  show wpAny _ _ (typeLookup (.ref C) _) _ _ _
  refine i1.at ?_
  refine wpAny_holding (wpAny_bind (b1.at ?_))
  refine wpAny_bind (wpAny_call (codeAny_mono hq fun r s' z => ?_))
  rcases r with e | (v | _ | _ | _) <;> first | exact z | exact z.elim | skip
  obtain ⟨rfl, z⟩ := z
  first
    | exact wpAny_pure (wpAny_pure z)
    | (wp_walk; exact z)
theorem gk_call {rest : List Value} {fI : Addr} (F : ExcBaseFacts B newId initId bmB) (hT : ∀ X : String, bm.contains (.type X) = bmB.contains (.type X))
    (hC : h.get? C = some (excClassObj nm q C N bs bm hdct sn sub ab col dd k0 k1 k2 k3 k5 newId))
    (hi : W.Looks (model prog w) h (typeLookup (.ref C) "__init__") (some (.ref fI))) (hb : ∀ self, W.Looks (model prog w) h (bindSpecial (.ref fI) self) (.ref fI, [self])) (hrest : rest.length ≤ sizeLine)
    (hq : codeAny (model prog w) (A.under (.builtin "type.__call__" ⟨.ref C :: rest, kw⟩)) (.call (.ref fI) ⟨.ref (h.objs.size + 1) :: rest, kw⟩) (W.InitBack (h.objs.size + 1) R)
      ⟨(h.push (W.kdv_tup rest)).push (excO C h.objs.size), g, d, t, os⟩) :
    codeAny (model prog w) A (.call (.ref C) ⟨rest, kw⟩) R ⟨h, g, d, t, os⟩ := by
  have f1 := tc_lookup
  have f2 := tc_bind (.ref C)
  have f3 := tc_sub
  have hTy : (⟨h, g, d, t, os⟩ : Shared).TypeIs (.ref C) "type" := ⟨_, hC, rfl⟩
  refine codeAny_of_tree ?_
  show wpAny _ _ (callAny (.ref C) _) _ _ _
  repeat (any_goals (first | assumption | with_reducible refine wpAny_loadPart_at hC ?_ | wp_step))
  refine ⟨rfl, ?_⟩
  have chk : ∀ {A' : Around} {E' : Value → Shared → Prop} {Q' : Unit → Shared → Prop}, Q' () ⟨h, g, d, t, os⟩ → wpAny (model prog w) A' (checkBuiltinCall "type.__call__" ⟨.ref C :: rest, kw⟩) Q' E' ⟨h, g, d, t, os⟩ := fun {A' E' Q'} hq' => by
    simp only [checkBuiltinCall, tc_kind, tc_split]
    repeat (any_goals (first | assumption | with_reducible refine wpAny_loadPart_at hC ?_ | with_reducible refine wpAny_onRaise ?_ | with_reducible refine wpAny_map ?_ | wp_step))
  refine codeAny_call_builtin_at (Code.quiet_builtin _ (by decide +kernel)) entry_typeCall (chk (gk_type F hT hC hi hb hrest ?_))
  refine codeAny_mono hq fun r s' z => ?_
  rcases r with e | (v | _ | _ | _) <;> exact z
end
end MyGk
end PySem

end

section
/-! ### exceptions as values: C(e, ..), C(), C(k = e, ..) -/
namespace My
open PySem PySem.Spec PyProof.Rows L2
/-- a made exception -/
def tGx (C : Addr) (sp : Sp) (ta : TA) : TE := fun σ H Q => ta σ H fun vs H1 => vs.length ≤ 1000 ∧ ∀ a, H1 a = none → sp (.ref a :: vs) (upd H1 a (exo a C none)) (fun v H2 => v = .non ∧ Q (.ref a) H2) fun _ _ _ => False
/-- by keywords alone: gV puts them in the parameters' order -/
def tGxK (C : Addr) (n : Nat) (gV : List V → List V) (sp : Sp) (ta : TA) : TE := fun σ H Q => ta σ H fun vs H1 => vs.length = n ∧ ∀ a, H1 a = none → sp (.ref a :: gV vs) (upd H1 a (exo a C none)) (fun v H2 => v = .non ∧ Q (.ref a) H2) fun _ _ _ => False
/-- such a class with its __init__ -/
structure GxC (P : Program) (w : World) (K : PySem.W.Frag) (mg : Str → Option Value) (base : Heap) (x : Str) (newId : String) (bmB : List Value) (fd : FuncData) (ps : List Str) (k : Nat) (sp : Sp) : Prop where
  T : ExG K (He.ga K x) newId bmB
  i : PySem.W.findIn K (.ref (He.ga K x)) "__init__" = some (some (.ref (He.ma K (He.ga K x) "__init__")))
  t : PySem.W.typeIn K (.ref (He.ma K (He.ga K x) "__init__")) = some (.type "function")
  F : FnOk P w K mg base CX0 k (He.ma K (He.ga K x) "__init__") fd ps sp
  g : mg x = some (.ref (He.ga K x))
section
variable {X : Cx} {pins : List (Addr × Obj)} {σ : L2.St} {H : Hp} {s : Shared} {x : Str} {B newId initId : String} {bmB : List Value} {fd : FuncData} {ps ks : List Str} {k : Nat} {sp : Sp} {e : Expr} {es : List Expr} {kws : List Keyword} {ta : TA} {p pos : Pos}
/-- the making: what is bound is us2 -/
theorem run_gx {Q : VK} {us us2 : List Value} {vs : List V} {kw : List (Str × Value)} (G : GxC X.prog X.w X.K X.mg X.base x newId bmB fd ps k sp) (F : BsF B newId initId bmB) (hr : Room (k + 1) X.A) (I : Inv X pins σ H s) (hus : us.length ≤ sizeLine)
    (hb : ∀ (s' : Shared) (a : Addr), X.K.In s'.heap → BindsTo s' fd ⟨.ref a :: us, kw⟩ (ps.zip (.ref a :: us2))) (r : Vals vs us2)
    (q : ∀ a, H a = none → sp (.ref a :: vs) (upd H a (exo a (He.ga X.K x) none)) (fun v H2 => v = .non ∧ Q (.ref a) H2) fun _ _ _ => False) :
    wpAny (model X.prog X.w) X.A (call (.ref (He.ga X.K x)) us kw) (EP X pins σ Q) X.xe s := by
  obtain ⟨nm, N, qn, bs, bm, hdct, sn, sub, ab, col, dd, k0, k1, k2, k3, k5, hC, hT⟩ := PySem.W.excInit_of I.kIn G.T.q
  obtain ⟨hp, g, dr, tk, os⟩ := s
  have hsz : hp.objs.size ≤ hp.objs.size + 1 := Nat.le_succ _
  have hq := q (hp.objs.size + 1) (I.hok.fresh hsz)
  have kk : ∀ b o, hp.get? b = some o → ((hp.push (PySem.W.kdv_tup us)).push (PySem.HandSPX.excO (He.ga X.K x) hp.objs.size)).get? b = some o := fun b o e => Heap.get?_push_of_some _ (Heap.get?_push_of_some _ e)
  have hget : ((hp.push (PySem.W.kdv_tup us)).push (PySem.HandSPX.excO (He.ga X.K x) hp.objs.size)).get? (hp.objs.size + 1) = some (PySem.HandSPX.excO (He.ga X.K x) hp.objs.size) := by heap_get
  have I2 : Inv X pins σ (upd H (hp.objs.size + 1) (exo (hp.objs.size + 1) (He.ga X.K x) none)) ⟨(hp.push (PySem.W.kdv_tup us)).push (PySem.HandSPX.excO (He.ga X.K x) hp.objs.size), g, dr, tk, os⟩ :=
    I.laid (t' := tk) (a := hp.objs.size + 1) (o := exo (hp.objs.size + 1) (He.ga X.K x) none) (h' := (hp.push (PySem.W.kdv_tup us)).push (PySem.HandSPX.excO (He.ga X.K x) hp.objs.size)) kk hsz (exo_ok hget)
  refine wpAny_call (PySem.MyGk.gk_call F.FB hT hC (PySem.W.looks_findIn I.kIn G.i) (fun self => PySem.W.bind_fn I.kIn self G.t) hus
    (codeAny_mono (G.F.run _ X.stack _ _ ⟨Value.ref (hp.objs.size + 1) :: us, kw⟩ (Value.ref (hp.objs.size + 1) :: us2) _ _ (fun _ _ _ => False) (hr.make (He.ga X.K x) us kw) (I2.env0.make (He.ga X.K x) us kw) (hb _ _ I2.kIn) (.cons (show RelV (.ref _) (.ref _) from rfl) r) hq) fun r s' hq' => ?_))
  match r, hq' with
  | .error er, hq' => exact False.elim hq'
  | .ok .next, hq' => exact False.elim hq'
  | .ok .brk, hq' => exact False.elim hq'
  | .ok .cont, hq' => exact False.elim hq'
  | .ok (.ret u), hq' =>
    obtain ⟨v, H', I3, rv, ev, q3⟩ := I2.after hq'
    subst ev
    exact ⟨rv, ⟨V.ref (hp.objs.size + 1), H', I3, rfl, q3⟩⟩
theorem pe_gx (G : GxC X.prog X.w X.K X.mg X.base x newId bmB fd ps k sp) (F : BsF B newId initId bmB) (hb : Binds X.K fd ps []) (hr : Room (k + 1) X.A) (ha : PA X (e :: es) ta) (hg : Gl X x) (hdb : (x == ("__debug__" : Str)) = false := by decide)
    (he : starEach (e :: es) X.env = (false, eval e X.env) :: starEach es X.env := by rfl) (hpl : (backTo pos (starEach es X.env)).any (·.1) = false := by rfl) : PE X (.Call (.Name x p) (e :: es) [] pos) (tGx (He.ga X.K x) sp ta) := by
  refine ⟨fun pins s σ H Q I h => ?_⟩
  refine wpAny_Call_Name_kw (ld_glob I hg G.g ?_ hdb)
  refine PySem.W.callWith_K (h₀ := X.base) I.ok.mod.kin G.T.kC (thn (ha.run pos pins s σ H _ I h) fun us s1 ⟨vs, H1, I1, r1, hz, q1⟩ => ⟨I1.kIn, ?_⟩) he hpl
  have hl : us.length + 1 = ps.length := by
    have z := G.F.len _ _ _ _ (q1 s1.heap.objs.size (I1.hok.fresh (Nat.le_refl _)))
    rw [List.length_cons] at z
    rw [← Paired.length r1]; exact z
  refine run_gx G F hr I1 (by show us.length ≤ sizeLine; rw [← Paired.length r1, sizeLine_eq]; omega) (fun s' a k => ?_) r1 q1
  have := hb s' (.ref a :: us) k (by rw [List.append_nil]; exact hl)
  rw [List.append_nil] at this
  exact this
theorem pe_gx0 (G : GxC X.prog X.w X.K X.mg X.base x newId bmB fd ps k sp) (F : BsF B newId initId bmB) (hb : Binds X.K fd ps []) (hr : Room (k + 1) X.A) (hg : Gl X x) (hdb : (x == ("__debug__" : Str)) = false := by decide) : PE X (.Call (.Name x p) [] [] pos) (tGx (He.ga X.K x) sp tNil) := by
  refine ⟨fun pins s σ H Q I h => ?_⟩
  refine wpAny_Call_Name_kw (ld_glob I hg G.g ?_ hdb)
  obtain ⟨_, q1⟩ := (show ([] : List V).length ≤ 1000 ∧ _ from h)
  refine PySem.W.callWith_K0 I.kIn G.T.kC (run_gx (us := []) (us2 := []) G F hr I (Nat.zero_le _) (fun s' a k => ?_) .nil q1)
  have hl : ([] : List Value).length + 1 = ps.length := G.F.len _ _ _ _ (q1 s.heap.objs.size (I.hok.fresh (Nat.le_refl _)))
  have := hb s' (.ref a :: []) k (by rw [List.append_nil]; exact hl)
  rw [List.append_nil] at this
  exact this
theorem pe_gxK {g : List Value → List Value} {gV : List V → List V} (G : GxC X.prog X.w X.K X.mg X.base x newId bmB fd ps k sp) (F : BsF B newId initId bmB) (hr : Room (k + 1) X.A)
    (hb : ∀ (s' : Shared) (a : Addr) (ws : List Value), ws.length = ks.length → BindsTo s' fd ⟨[.ref a], ks.zip ws⟩ (ps.zip (.ref a :: g ws))) (hrel : ∀ {zs : List V} {ws : List Value}, Vals zs ws → Vals (gV zs) (g ws)) (hkw : PK X kws ta) (hg : Gl X x)
    (hall : (backToKw pos (keywordEach kws X.env)).all (·.1.isSome) = true := by rfl) (hks : (backToKw pos (keywordEach kws X.env)).filterMap (·.1) = ks := by rfl) (hdb : (x == ("__debug__" : Str)) = false := by decide)
    (hpl : ((backTo pos (starEach [] X.env)).any (·.1) || (backToKw pos (keywordEach kws X.env)).any (·.1.isNone)) = false := by rfl) :
    PE X (.Call (.Name x p) [] kws pos) (tGxK (He.ga X.K x) ks.length gV sp ta) := by
  refine ⟨fun pins s σ H Q I h => ?_⟩
  refine wpAny_Call_Name_kw (ld_glob I hg G.g ?_ hdb)
  refine PySem.W.callWith_KW0 (h₀ := X.base) I.ok.mod.kin G.T.kC hall ?_ hpl
  refine thn (hkw.run pos pins s σ H _ I h) fun ws s2 ⟨zs, H2, I2, rz, l2, q2⟩ => ⟨I2.kIn, ?_⟩
  rw [hks]
  exact run_gx (us := []) G F hr I2 (Nat.zero_le _) (fun s' a _ => hb s' a ws (rz.length.symm.trans l2)) (hrel rz) q2
end
end My

end

section
/-! ### exceptions as values: their fields, isinstance -/
namespace My
open PySem PySem.Spec PyProof.Rows L2
/-- an exception at a, of the class at C, with these fields (none: no dict) -/
def ExAt (H : Hp) (a C : Addr) (fs : List (Str × V)) : Prop := (fs = [] ∧ H a = some (exo a C none)) ∨ ∃ d, H a = some (exo a C (some d)) ∧ H d = some (exd d fs)
theorem ExAt.same {H H' : Hp} {a C : Addr} {fs : List (Str × V)} (h : ExAt H a C fs) (s : Same H H') : ExAt H' a C fs := h.imp (fun ⟨e, q⟩ => ⟨e, s _ _ q⟩) fun ⟨d, q, r⟩ => ⟨d, s _ _ q, s _ _ r⟩
section
variable {X : Cx} {pins : List (Addr × Obj)} {σ : L2.St} {H : Hp} {s : Shared} {a C : Addr} {fs : List (Str × V)}
theorem ExAt.inst (I : Inv X pins σ H s) (h : ExAt H a C fs) : ∃ ox od, PySem.W.InstAt s.heap a ox C od := by
  rcases h with ⟨_, e⟩ | ⟨d, e, ed⟩
  · obtain ⟨t1, ho⟩ := exo_at I.hok e
    exact ⟨_, none, ho, rfl, rfl, trivial⟩
  · obtain ⟨t1, ho⟩ := exo_at I.hok e
    obtain ⟨mA, hns, rel⟩ := exd_at I.hok ed
    obtain ⟨oD, _, _, hoD, _, _⟩ := hns.count (within_of rel)
    exact ⟨_, some oD, ho, rfl, rfl, hoD⟩
/-- isinstance(e, c), e an exception -/
def rIsX (K : PySem.W.Frag) : List V → Hp → VK → Prop := fun xs H Q => ∃ (a D : Addr) (fs : List (Str × V)) (c : V) (u : Value) (b : Bool), xs = [.ref a, c] ∧ ExAt H a D fs ∧ ExcC K D ∧ ClsV c u ∧ PySem.W.kitOne K (.ref D) u = some b ∧ Q (.bl b) H
theorem call_isX : CallR X (.builtin "isinstance") (rIsX X.K) := by
  intro pins s σ H xs us Q I r h
  obtain ⟨a, D, fs, c, u, b, rfl, e, C, k, hk, q⟩ := h
  obtain ⟨u1, u2, rfl, r1, r2⟩ := vals2 r
  have e2 := k.eq r2
  subst e2
  cases r1
  obtain ⟨ox, od, J⟩ := e.inst I
  exact PySem.W.kia_one (PySem.W.kitx_exc (gt := none) (by obtain ⟨cd, hc, _⟩ := PySem.W.any_some C.hd; rw [hc]; rfl) C.hg C.hk C.hs C.ha C.hn C.ht C.hm) I.kIn J hk (fun z => nomatch z) fun tk => ⟨.bl b, H, I.tok tk, rfl, q⟩
/-- e.f, e an exception -/
def tXg (K : PySem.W.Frag) (f : Str) (te : TE) : TE := fun σ H Q => te σ H fun x H1 => ∃ (a C : Addr) (fs : List (Str × V)) (v : V), x = .ref a ∧ ExAt H1 a C fs ∧ XfC K C ∧ PySem.W.findIn K (.ref C) f = some none ∧ fs.lookup f = some v ∧ Q v H1
theorem pe_xg {K : PySem.W.Frag} {e : Expr} {te : TE} {pos : Pos} {f : Str} (hK : X.K = K) (he : PE X e te) (hb : attributeBase e f X.env (eval e X.env) = eval e X.env := by rfl) : PE X (.Attribute e f pos) (tXg K f te) := by
  subst hK
  refine ⟨fun pins s σ H Q I h => attr_of hb (thn (he.run pins s σ H _ I h) fun u s1 ⟨x, H1, I1, rx, a, C, fs, v, ex, ea, T, hno, l, q⟩ => ?_)⟩
  subst ex
  cases rx
  rcases ea with ⟨rfl, _⟩ | ⟨d, ea, ed⟩
  · cases l
  · obtain ⟨t1, ho⟩ := exo_at I1.hok ea
    obtain ⟨mA, hns, hr⟩ := exd_at I1.hok ed
    obtain ⟨od, hod, hl⟩ := lookIn_ns hns
    obtain ⟨u, hu, ru⟩ := RelO.some_of (v := v) (o := mA f) (by rw [← l]; exact hr f)
    have J : PySem.W.InstAt s1.heap a _ C (some od) := ⟨ho, rfl, rfl, hod⟩
    exact HandSPX.exc_get I1.kIn J T.ga T.gg T.exC (PySem.W.findObj_own T.hdC hno rfl (by rw [hl, hu])) (handed_of ru) ⟨v, H1, I1.tok _, ru, q⟩
end
end My

end

section
/-! ### classes of exceptions as their callers see them; the steps of a making -/
namespace My
open PySem PySem.Spec PyProof.Rows L2
structure Gc (P : Program) (w : World) (K : PySem.W.Frag) (mg : Str → Option Value) (base : Heap) (x : Str) (newId : String) (bmB : List Value) (ps : List Str) (sp : Sp) : Prop where
  ex : ∃ fd, GxC P w K mg base x newId bmB fd ps 1 sp ∧ Binds K fd ps [] ∧ ∀ (s' : Shared) (a : Addr) (ws : List Value), ws.length = (ps.drop 1).length → BindsTo s' fd ⟨[.ref a], (ps.drop 1).zip ws⟩ (ps.zip (.ref a :: ws))
section
variable {X : Cx} {x : Str} {B newId initId : String} {bmB : List Value} {ps ks : List Str} {k : Nat} {sp : Sp} {e : Expr} {es : List Expr} {kws : List Keyword} {ta : TA} {p pos : Pos}
theorem pe_gc (G : Gc X.prog X.w X.K X.mg X.base x newId bmB ps sp) (F : BsF B newId initId bmB) (hr : Room 2 X.A) (ha : PA X (e :: es) ta) (hg : Gl X x) (hdb : (x == ("__debug__" : Str)) = false := by decide)
    (he : starEach (e :: es) X.env = (false, eval e X.env) :: starEach es X.env := by rfl) (hpl : (backTo pos (starEach es X.env)).any (·.1) = false := by rfl) : PE X (.Call (.Name x p) (e :: es) [] pos) (tGx (He.ga X.K x) sp ta) := by
  obtain ⟨fd, G, b, _⟩ := G.ex
  exact pe_gx G F b hr ha hg hdb he hpl
theorem pe_gc0 (G : Gc X.prog X.w X.K X.mg X.base x newId bmB ps sp) (F : BsF B newId initId bmB) (hr : Room 2 X.A) (hg : Gl X x) (hdb : (x == ("__debug__" : Str)) = false := by decide) : PE X (.Call (.Name x p) [] [] pos) (tGx (He.ga X.K x) sp tNil) := by
  obtain ⟨fd, G, b, _⟩ := G.ex
  exact pe_gx0 G F b hr hg hdb
theorem pe_gcK (G : Gc X.prog X.w X.K X.mg X.base x newId bmB ps sp) (F : BsF B newId initId bmB) (hr : Room 2 X.A) (hkw : PK X kws ta) (hg : Gl X x)
    (hall : (backToKw pos (keywordEach kws X.env)).all (·.1.isSome) = true := by rfl) (hks : (backToKw pos (keywordEach kws X.env)).filterMap (·.1) = ps.drop 1 := by rfl) (hdb : (x == ("__debug__" : Str)) = false := by decide)
    (hpl : ((backTo pos (starEach [] X.env)).any (·.1) || (backToKw pos (keywordEach kws X.env)).any (·.1.isNone)) = false := by rfl) :
    PE X (.Call (.Name x p) [] kws pos) (tGxK (He.ga X.K x) (ps.drop 1).length id sp ta) := by
  obtain ⟨fd, G, _, kb⟩ := G.ex
  exact pe_gxK (g := id) (gV := id) (ks := ps.drop 1) G F hr kb (fun r => r) hkw hg hall hks hdb hpl
/-- a def's __init__ of no field, of two -/
def sp_e0 (K : PySem.W.Frag) (x : Str) : Sp := fun vs H Q _ => ∃ a : Addr, vs = [.ref a] ∧ H a = some (exo a (He.ga K x) none) ∧ Q .non H
def sp_e2 (K : PySem.W.Frag) (x f g : Str) : Sp := fun vs H Q _ => ∃ (a : Addr) (u v : V), vs = [.ref a, u, v] ∧ H a = some (exo a (He.ga K x) none) ∧
  ∀ dx H', H dx = none → dx ≠ a → (∀ b o, b ≠ a → H b = some o → H' b = some o) → H' a = some (exo a (He.ga K x) (some dx)) → H' dx = some (exd dx [(g, v), (f, u)]) → Q .non H'
/-- what is made of vs -/
def GxR (C : Addr) (sp : Sp) (vs : List V) (H : Hp) (Q : VK) : Prop := vs.length ≤ 1000 ∧ ∀ a, H a = none → sp (.ref a :: vs) (upd H a (exo a C none)) (fun v H2 => v = .non ∧ Q (.ref a) H2) fun _ _ _ => False
def GxKR (C : Addr) (n : Nat) (gV : List V → List V) (sp : Sp) (vs : List V) (H : Hp) (Q : VK) : Prop := vs.length = n ∧ ∀ a, H a = none → sp (.ref a :: gV vs) (upd H a (exo a C none)) (fun v H2 => v = .non ∧ Q (.ref a) H2) fun _ _ _ => False
end
section
variable {K : PySem.W.Frag} {σ : L2.St} {H : Hp} {Q : VK} {ta : TA} {sp : Sp} {C : Addr} {x f g : Str} {u v : V} {n : Nat} {gV : List V → List V}
theorem x_gx (h : ta σ H fun vs H1 => GxR C sp vs H1 Q) : tGx C sp ta σ H Q := h
theorem x_gxK (h : ta σ H fun vs H1 => GxKR C n gV sp vs H1 Q) : tGxK C n gV sp ta σ H Q := h
theorem GxR.toK {vs : List V} (h : GxR C sp vs H Q) (l : vs.length = n) : GxKR C n id sp vs H Q := ⟨l, h.2⟩
theorem gx1 (h : ∀ a H', H a = none → Same H H' → ExAt H' a (He.ga K x) [(f, v)] → Q (.ref a) H') : GxR (He.ga K x) (sp_exc K x f) [v] H Q := by
  refine ⟨Nat.le_of_ble_eq_true rfl, fun a ha => ⟨a, v, rfl, upd_same, fun dx hdx hne => ⟨rfl, h a _ ha ?_ (.inr ⟨dx, upd_same, by rw [upd_ne hne, upd_same]⟩)⟩⟩⟩
  have hd : H dx = none := (upd_ne hne).symm.trans hdx
  exact fun b o e => by rw [upd_ne (ne_of_none e ha), upd_ne (ne_of_none e hd), upd_ne (ne_of_none e ha)]; exact e
theorem gx0 (h : ∀ a H', H a = none → Same H H' → ExAt H' a (He.ga K x) [] → Q (.ref a) H') : GxR (He.ga K x) (sp_e0 K x) [] H Q :=
  ⟨Nat.zero_le _, fun a ha => ⟨a, rfl, upd_same, rfl, h a _ ha (My.Same.new (Same.refl H) ha) (.inl ⟨rfl, upd_same⟩)⟩⟩
theorem gx2 (h : ∀ a H', H a = none → Same H H' → ExAt H' a (He.ga K x) [(g, v), (f, u)] → Q (.ref a) H') : GxR (He.ga K x) (sp_e2 K x f g) [u, v] H Q :=
  ⟨Nat.le_of_ble_eq_true rfl, fun a ha => ⟨a, u, v, rfl, upd_same, fun dx H' hdx hne hk h1 h2 => ⟨rfl, h a H' ha (fun b o e => hk b o (ne_of_none e ha) (by rw [upd_ne (ne_of_none e ha)]; exact e)) (.inr ⟨dx, h1, h2⟩)⟩⟩⟩
end
section
variable {K : PySem.W.Frag} {σ : L2.St} {H : Hp} {Q : VK} {te to : TE} {ta : TA} {nx bk ct : L2.St → Hp → Prop} {rt : VK} {newId : String} {bmB : List Value} {f : Str}
theorem x_gi (h : ta σ H fun vs H1 => ∃ (a C : Addr) (ws : List V), vs = .ref a :: ws ∧ ws.length ≤ 1000 ∧ ExG K C newId bmB ∧ H1 a = some (exo a C none) ∧ Q .non H1) : tGI K newId bmB ta σ H Q := h
theorem x_gst (h : te σ H fun y H1 => to σ H1 fun x H2 => ∃ a C : Addr, x = .ref a ∧ ExG K C newId bmB ∧ PySem.W.findIn K (.ref C) f = some none ∧
  ((H2 a = some (exo a C none) ∧ ∀ dx, H2 dx = none → dx ≠ a → nx σ (upd (upd H2 dx (exd dx [(f, y)])) a (exo a C (some dx)))) ∨
    ∃ (dx : Addr) (fs : List (Str × V)), H2 a = some (exo a C (some dx)) ∧ H2 dx = some (exd dx fs) ∧ fs.length ≤ 900 ∧ nx σ (upd H2 dx (exd dx ((f, y) :: fs))))) : tGst K newId bmB f to te ⟨nx, rt, bk, ct⟩ σ H := h
theorem x_xg (h : te σ H fun x H1 => ∃ (a C : Addr) (fs : List (Str × V)) (v : V), x = .ref a ∧ ExAt H1 a C fs ∧ XfC K C ∧ PySem.W.findIn K (.ref C) f = some none ∧ fs.lookup f = some v ∧ Q v H1) : tXg K f te σ H Q := h
theorem x_isX {a D : Addr} {fs : List (Str × V)} {c : V} {u : Value} {b : Bool} (e : ExAt H a D fs) (C : ExcC K D) (k : ClsV c u) (hk : PySem.W.kitOne K (.ref D) u = some b) (q : Q (.bl b) H) : rIsX K [.ref a, c] H Q := ⟨a, D, fs, c, u, b, rfl, e, C, k, hk, q⟩
end
end My

end

section
local macro_rules | `(tactic| walk_at "ne") => `(tactic| first | assumption | (apply Ne.symm; assumption) | exact L2.ne_of_none (by assumption) (by assumption) | exact (L2.ne_of_none (by assumption) (by assumption)).symm)
local macro_rules | `(tactic| walk_at "hp") => `(tactic| first | assumption | exact L2.upd_same | (rw [L2.upd_ne (by walk_at "ne")]; walk_at "hp"))
local macro_rules | `(tactic| walk_at "sq") => `(tactic| first | assumption | exact L2.SqL.of (by walk_at "hp") | exact My.sq_new (by walk_at "sq") (by assumption))
local macro_rules | `(tactic| walk_at "sd") => `(tactic| first | decide | omega | (unfold L2.CDivN; omega) | (unfold L2.CMul; omega) | (unfold L2.CPow; omega))
local macro_rules | `(tactic| walk_at "sx1") => `(tactic| first | with_reducible refine My.x_seq ?_ | with_reducible refine My.x_asg ?_ | with_reducible refine My.x_ret ?_ | with_reducible refine My.x_next ?_ | with_reducible refine My.x_op ?_ | with_reducible refine My.x_c ?_ | with_reducible refine My.x_ifs ?_ | with_reducible refine My.x_test ?_ | with_reducible refine My.x_exbl ?_ | with_reducible refine My.x_cons ?_ | with_reducible refine My.x_nil ?_ | with_reducible refine My.x_cb ?_ | with_reducible refine My.x_drop ?_ | with_reducible refine My.x_par ?_ | with_reducible refine My.x_exp2 ?_ | with_reducible refine My.x_aug ?_ | with_reducible refine My.x_if ?_ | with_reducible refine My.x_tB ?_ | with_reducible refine My.x_and ?_ | with_reducible refine My.x_or ?_ | with_reducible refine My.x_not ?_ | with_reducible refine My.x_retn ?_ | with_reducible refine My.x_cont ?_ | with_reducible refine My.x_brk ?_ | with_reducible refine My.x_un ?_ | with_reducible refine My.x_tfor ?_ | with_reducible refine My.x_ilist ?_ | with_reducible refine My.x_rng1 ?_ | with_reducible refine My.x_rng2 ?_ | with_reducible refine My.x_r1 ?_ | with_reducible refine My.x_call ?_ | with_reducible refine My.x_sl ?_ | with_reducible refine My.x_part ?_ | with_reducible refine My.x_nopart ?_ | with_reducible refine My.x_ii0 ?_ | with_reducible refine My.x_yes ?_ | with_reducible refine My.x_andv ?_ | with_reducible refine My.x_orv ?_ | with_reducible refine My.x_notv ?_ | with_reducible refine My.x_iT ?_ | with_reducible refine My.x_iF ?_ | with_reducible refine My.x_chain ?_ | with_reducible refine My.x_exI ?_ | with_reducible refine My.x_wipe ?_ | with_reducible refine My.x_bm ?_ | with_reducible refine My.x_bm0 ?_ | with_reducible refine My.x_gsub ?_ | with_reducible refine My.x_int1 ?_ | with_reducible refine My.x_two ?_ | with_reducible refine My.x_lst ?_ | with_reducible refine My.x_tup ?_ | with_reducible refine My.x_revL ?_ | with_reducible refine My.x_dput ?_ | with_reducible refine My.x_dget ?_ | with_reducible refine My.x_dnew ?_ | with_reducible refine My.x_dc ?_ | with_reducible refine My.x_lc ?_ | with_reducible refine My.x_ienum ?_ | with_reducible refine My.x_gcons ?_ | with_reducible refine My.x_gnil ?_ | with_reducible refine My.x_v0 ?_ | with_reducible refine My.x_v1 ?_ | with_reducible refine My.x_v2 ?_ | with_reducible refine My.x_v3 ?_ | with_reducible refine My.x_v4 ?_ | with_reducible refine My.x_v5 ?_ | with_reducible refine My.x_v6 ?_ | with_reducible refine My.x_v7 ?_ | with_reducible refine My.x_v8 ?_ | with_reducible refine My.x_v9 ?_ | with_reducible refine My.x_v10 ?_ | with_reducible refine My.x_v11 ?_ | with_reducible refine My.x_v12 ?_ | with_reducible refine My.x_v13 ?_ | with_reducible refine My.x_v14 ?_ | with_reducible refine My.x_v15 ?_ | with_reducible refine My.x_v16 ?_ | with_reducible refine My.x_v17 ?_ | with_reducible refine My.x_v18 ?_ | with_reducible refine My.x_v19 ?_ | with_reducible refine My.x_v20 ?_ | with_reducible refine My.x_v21 ?_ | with_reducible refine My.x_v22 ?_ | with_reducible refine My.x_v23 ?_ | with_reducible refine My.x_v24 ?_ | with_reducible refine My.x_v25 ?_ | with_reducible refine My.x_g0 ?_ | with_reducible refine My.x_g1 ?_ | with_reducible refine My.x_g2 ?_ | with_reducible refine My.x_g3 ?_ | with_reducible refine My.x_g4 ?_ | with_reducible refine My.x_g5 ?_ | with_reducible refine My.x_g6 ?_ | with_reducible refine My.x_g7 ?_ | with_reducible refine My.x_g8 ?_ | with_reducible refine My.x_g9 ?_ | with_reducible refine My.x_g10 ?_ | with_reducible refine My.x_g11 ?_ | with_reducible refine My.x_g12 ?_ | with_reducible refine My.x_g13 ?_ | with_reducible refine My.x_g14 ?_ | with_reducible refine My.x_g15 ?_ | with_reducible refine My.x_g16 ?_ | with_reducible refine My.x_g17 ?_ | with_reducible refine My.x_g18 ?_ | with_reducible refine My.x_g19 ?_ | with_reducible refine My.x_g20 ?_ | with_reducible refine My.x_g21 ?_ | with_reducible refine My.x_g22 ?_ | with_reducible refine My.x_g23 ?_ | with_reducible refine My.x_g24 ?_ | with_reducible refine My.x_g25 ?_)
local macro_rules | `(tactic| walk_at "sx") => `(tactic| repeat (walk_at "sx1"))
local macro_rules | `(tactic| walk_at "ln") => `(tactic| first | assumption | exact Nat.le_of_ble_eq_true rfl | (simp only [List.length_append, List.length_map, List.length_cons, List.length_nil]; simp only [PySem.sizeLine]; omega))
local macro_rules | `(tactic| walk_at "st") => `(tactic| first | assumption | exact L2.SqT.of (by walk_at "hp"))
local macro_rules | `(tactic| walk_at "go1") => `(tactic| first | walk_at "sx1" | ((with_reducible refine' My.x_ixL ?x0 ?x1 ?x2); (case x0 => walk_at "sq"); (case x1 => exact rfl)) | ((with_reducible refine' My.x_ixT ?x0 ?x1 ?x2); (case x0 => walk_at "st"); (case x1 => exact rfl)) | ((with_reducible refine' My.x_i ?x0 ?x1); (case x0 => walk_at "sd")) | ((with_reducible refine' My.x_setL ?x0 ?x1 ?x2); (case x0 => walk_at "hp"); (case x1 => exact rfl)) | ((with_reducible refine' My.x_len ?x0 ?x1); (case x0 => walk_at "sq")) | ((with_reducible refine' My.x_lenT ?x0 ?x1); (case x0 => walk_at "st")) | ((with_reducible refine' My.x_lenD ?x0 ?x1); (case x0 => walk_at "hp")) | ((with_reducible refine' My.x_append ?x0 ?x1 ?x2); (case x0 => walk_at "hp"); (case x1 => walk_at "ln")) | ((with_reducible refine' My.x_tyL ?x0 ?x1); (case x0 => walk_at "hp")) | ((with_reducible refine' My.x_ilistE ?x0 ?x1); (case x0 => walk_at "sq")) | ((with_reducible refine' My.x_ienumE ?x0 ?x1); (case x0 => walk_at "sq")) | ((with_reducible refine' My.x_sortI ?x0 ?x1); (case x0 => walk_at "sq")) | ((with_reducible refine' My.x_slL ?x0 ?x1); (case x0 => walk_at "sq")) | ((with_reducible refine' My.x_revL2 ?x0 ?x1); (case x0 => walk_at "sq")) | ((with_reducible refine' My.x_eq ?x0 ?x1); (case x0 => exact rfl)) | ((with_reducible refine' My.x_ne ?x0 ?x1); (case x0 => exact rfl)) | ((with_reducible refine' My.x_dputI ?x0 ?x1 ?x2); (case x0 => walk_at "hp"); (case x1 => walk_at "ln")) | ((with_reducible refine' My.x_dputS ?x0 ?x1 ?x2); (case x0 => walk_at "hp"); (case x1 => walk_at "ln")) | ((with_reducible refine' My.x_seqof ?x0 ?x1); (case x0 => walk_at "sq")) | ((with_reducible refine' My.x_gtup ?x0 ?x1 ?x2); (case x0 => walk_at "st"); (case x1 => exact rfl)) | ((with_reducible refine' My.x_mem1 ?x0 ?x1); (case x0 => walk_at "ln")))
local macro_rules | `(tactic| walk_at "go") => `(tactic| repeat (walk_at "go1"))
local macro_rules | `(tactic| walk_at "sx1") => `(tactic| first | with_reducible refine My.x_gx ?_ | with_reducible refine My.x_gxK ?_ | with_reducible refine My.x_gi ?_ | with_reducible refine My.x_gst ?_ | with_reducible refine My.x_xg ?_ | with_reducible refine My.x_nF ?_ | with_reducible refine My.x_nT ?_)
namespace K36
open PySem PySem.Spec PyProof.Rows L2
def top (i : Nat) : Stmt := PySem.Challenge.pw_livevolumes_k36_error_classes.main.body.getD i (.Pass ⟨0, 0, 0, 0⟩)
abbrev s_InvalidBlock_init : Stmt := inClass (top 1) 0
theorem sc_InvalidBlock_init : FnScope ["self", "value"] ["self", "value"] (defScope s_InvalidBlock_init) := ⟨rfl, rfl, rfl, by decide +kernel, rfl, by decide +kernel, by decide +kernel⟩
def d_InvalidBlock_init : He.DefD := ⟨("InvalidBlock", some "__init__"), "__init__", "InvalidBlock.__init__", defArgs s_InvalidBlock_init, defBody s_InvalidBlock_init, defScope s_InvalidBlock_init, [], []⟩
abbrev s_InvalidRecord_init : Stmt := inClass (top 2) 0
theorem sc_InvalidRecord_init : FnScope ["self", "value"] ["self", "value"] (defScope s_InvalidRecord_init) := ⟨rfl, rfl, rfl, by decide +kernel, rfl, by decide +kernel, by decide +kernel⟩
def d_InvalidRecord_init : He.DefD := ⟨("InvalidRecord", some "__init__"), "__init__", "InvalidRecord.__init__", defArgs s_InvalidRecord_init, defBody s_InvalidRecord_init, defScope s_InvalidRecord_init, [], []⟩
abbrev s_InvalidDisks_init : Stmt := inClass (top 3) 0
theorem sc_InvalidDisks_init : FnScope ["self"] ["self"] (defScope s_InvalidDisks_init) := ⟨rfl, rfl, rfl, by decide +kernel, rfl, by decide +kernel, by decide +kernel⟩
def d_InvalidDisks_init : He.DefD := ⟨("InvalidDisks", some "__init__"), "__init__", "InvalidDisks.__init__", defArgs s_InvalidDisks_init, defBody s_InvalidDisks_init, defScope s_InvalidDisks_init, [], []⟩
abbrev s_InvalidName_init : Stmt := inClass (top 4) 0
theorem sc_InvalidName_init : FnScope ["self", "value"] ["self", "value"] (defScope s_InvalidName_init) := ⟨rfl, rfl, rfl, by decide +kernel, rfl, by decide +kernel, by decide +kernel⟩
def d_InvalidName_init : He.DefD := ⟨("InvalidName", some "__init__"), "__init__", "InvalidName.__init__", defArgs s_InvalidName_init, defBody s_InvalidName_init, defScope s_InvalidName_init, [], []⟩
abbrev s_InvalidIndex_init : Stmt := inClass (top 5) 0
theorem sc_InvalidIndex_init : FnScope ["self", "value"] ["self", "value"] (defScope s_InvalidIndex_init) := ⟨rfl, rfl, rfl, by decide +kernel, rfl, by decide +kernel, by decide +kernel⟩
def d_InvalidIndex_init : He.DefD := ⟨("InvalidIndex", some "__init__"), "__init__", "InvalidIndex.__init__", defArgs s_InvalidIndex_init, defBody s_InvalidIndex_init, defScope s_InvalidIndex_init, [], []⟩
abbrev s_InvalidSize_init : Stmt := inClass (top 6) 0
theorem sc_InvalidSize_init : FnScope ["self", "value"] ["self", "value"] (defScope s_InvalidSize_init) := ⟨rfl, rfl, rfl, by decide +kernel, rfl, by decide +kernel, by decide +kernel⟩
def d_InvalidSize_init : He.DefD := ⟨("InvalidSize", some "__init__"), "__init__", "InvalidSize.__init__", defArgs s_InvalidSize_init, defBody s_InvalidSize_init, defScope s_InvalidSize_init, [], []⟩
abbrev s_InvalidData_init : Stmt := inClass (top 7) 0
theorem sc_InvalidData_init : FnScope ["self", "value"] ["self", "value"] (defScope s_InvalidData_init) := ⟨rfl, rfl, rfl, by decide +kernel, rfl, by decide +kernel, by decide +kernel⟩
def d_InvalidData_init : He.DefD := ⟨("InvalidData", some "__init__"), "__init__", "InvalidData.__init__", defArgs s_InvalidData_init, defBody s_InvalidData_init, defScope s_InvalidData_init, [], []⟩
abbrev s_InvalidCount_init : Stmt := inClass (top 8) 0
theorem sc_InvalidCount_init : FnScope ["self", "value"] ["self", "value"] (defScope s_InvalidCount_init) := ⟨rfl, rfl, rfl, by decide +kernel, rfl, by decide +kernel, by decide +kernel⟩
def d_InvalidCount_init : He.DefD := ⟨("InvalidCount", some "__init__"), "__init__", "InvalidCount.__init__", defArgs s_InvalidCount_init, defBody s_InvalidCount_init, defScope s_InvalidCount_init, [], []⟩
abbrev s_InvalidArea_init : Stmt := inClass (top 9) 0
theorem sc_InvalidArea_init : FnScope ["self", "value"] ["self", "value"] (defScope s_InvalidArea_init) := ⟨rfl, rfl, rfl, by decide +kernel, rfl, by decide +kernel, by decide +kernel⟩
def d_InvalidArea_init : He.DefD := ⟨("InvalidArea", some "__init__"), "__init__", "InvalidArea.__init__", defArgs s_InvalidArea_init, defBody s_InvalidArea_init, defScope s_InvalidArea_init, [], []⟩
abbrev s_UnknownName_init : Stmt := inClass (top 10) 0
theorem sc_UnknownName_init : FnScope ["self", "name"] ["self", "name"] (defScope s_UnknownName_init) := ⟨rfl, rfl, rfl, by decide +kernel, rfl, by decide +kernel, by decide +kernel⟩
def d_UnknownName_init : He.DefD := ⟨("UnknownName", some "__init__"), "__init__", "UnknownName.__init__", defArgs s_UnknownName_init, defBody s_UnknownName_init, defScope s_UnknownName_init, [], []⟩
abbrev s_NameTaken_init : Stmt := inClass (top 11) 0
theorem sc_NameTaken_init : FnScope ["self", "name"] ["self", "name"] (defScope s_NameTaken_init) := ⟨rfl, rfl, rfl, by decide +kernel, rfl, by decide +kernel, by decide +kernel⟩
def d_NameTaken_init : He.DefD := ⟨("NameTaken", some "__init__"), "__init__", "NameTaken.__init__", defArgs s_NameTaken_init, defBody s_NameTaken_init, defScope s_NameTaken_init, [], []⟩
abbrev s_NotVolume_init : Stmt := inClass (top 12) 0
theorem sc_NotVolume_init : FnScope ["self", "name"] ["self", "name"] (defScope s_NotVolume_init) := ⟨rfl, rfl, rfl, by decide +kernel, rfl, by decide +kernel, by decide +kernel⟩
def d_NotVolume_init : He.DefD := ⟨("NotVolume", some "__init__"), "__init__", "NotVolume.__init__", defArgs s_NotVolume_init, defBody s_NotVolume_init, defScope s_NotVolume_init, [], []⟩
abbrev s_NotSnapshot_init : Stmt := inClass (top 13) 0
theorem sc_NotSnapshot_init : FnScope ["self", "name"] ["self", "name"] (defScope s_NotSnapshot_init) := ⟨rfl, rfl, rfl, by decide +kernel, rfl, by decide +kernel, by decide +kernel⟩
def d_NotSnapshot_init : He.DefD := ⟨("NotSnapshot", some "__init__"), "__init__", "NotSnapshot.__init__", defArgs s_NotSnapshot_init, defBody s_NotSnapshot_init, defScope s_NotSnapshot_init, [], []⟩
abbrev s_NotAncestor_init : Stmt := inClass (top 14) 0
theorem sc_NotAncestor_init : FnScope ["self", "name"] ["self", "name"] (defScope s_NotAncestor_init) := ⟨rfl, rfl, rfl, by decide +kernel, rfl, by decide +kernel, by decide +kernel⟩
def d_NotAncestor_init : He.DefD := ⟨("NotAncestor", some "__init__"), "__init__", "NotAncestor.__init__", defArgs s_NotAncestor_init, defBody s_NotAncestor_init, defScope s_NotAncestor_init, [], []⟩
abbrev s_Branched_init : Stmt := inClass (top 15) 0
theorem sc_Branched_init : FnScope ["self", "name"] ["self", "name"] (defScope s_Branched_init) := ⟨rfl, rfl, rfl, by decide +kernel, rfl, by decide +kernel, by decide +kernel⟩
def d_Branched_init : He.DefD := ⟨("Branched", some "__init__"), "__init__", "Branched.__init__", defArgs s_Branched_init, defBody s_Branched_init, defScope s_Branched_init, [], []⟩
abbrev s_Busy_init : Stmt := inClass (top 16) 0
theorem sc_Busy_init : FnScope ["self"] ["self"] (defScope s_Busy_init) := ⟨rfl, rfl, rfl, by decide +kernel, rfl, by decide +kernel, by decide +kernel⟩
def d_Busy_init : He.DefD := ⟨("Busy", some "__init__"), "__init__", "Busy.__init__", defArgs s_Busy_init, defBody s_Busy_init, defScope s_Busy_init, [], []⟩
abbrev s_Closed_init : Stmt := inClass (top 17) 0
theorem sc_Closed_init : FnScope ["self"] ["self"] (defScope s_Closed_init) := ⟨rfl, rfl, rfl, by decide +kernel, rfl, by decide +kernel, by decide +kernel⟩
def d_Closed_init : He.DefD := ⟨("Closed", some "__init__"), "__init__", "Closed.__init__", defArgs s_Closed_init, defBody s_Closed_init, defScope s_Closed_init, [], []⟩
abbrev s_NoStore_init : Stmt := inClass (top 18) 0
theorem sc_NoStore_init : FnScope ["self"] ["self"] (defScope s_NoStore_init) := ⟨rfl, rfl, rfl, by decide +kernel, rfl, by decide +kernel, by decide +kernel⟩
def d_NoStore_init : He.DefD := ⟨("NoStore", some "__init__"), "__init__", "NoStore.__init__", defArgs s_NoStore_init, defBody s_NoStore_init, defScope s_NoStore_init, [], []⟩
abbrev s_Damaged_init : Stmt := inClass (top 19) 0
theorem sc_Damaged_init : FnScope ["self", "name", "index"] ["self", "name", "index"] (defScope s_Damaged_init) := ⟨rfl, rfl, rfl, by decide +kernel, rfl, by decide +kernel, by decide +kernel⟩
def d_Damaged_init : He.DefD := ⟨("Damaged", some "__init__"), "__init__", "Damaged.__init__", defArgs s_Damaged_init, defBody s_Damaged_init, defScope s_Damaged_init, [], []⟩
abbrev s_PowerLoss_init : Stmt := inClass (top 20) 0
theorem sc_PowerLoss_init : FnScope ["self"] ["self"] (defScope s_PowerLoss_init) := ⟨rfl, rfl, rfl, by decide +kernel, rfl, by decide +kernel, by decide +kernel⟩
def d_PowerLoss_init : He.DefD := ⟨("PowerLoss", some "__init__"), "__init__", "PowerLoss.__init__", defArgs s_PowerLoss_init, defBody s_PowerLoss_init, defScope s_PowerLoss_init, [], []⟩
abbrev s_NoSpace_init : Stmt := inClass (top 21) 0
theorem sc_NoSpace_init : FnScope ["self", "missing"] ["self", "missing"] (defScope s_NoSpace_init) := ⟨rfl, rfl, rfl, by decide +kernel, rfl, by decide +kernel, by decide +kernel⟩
def d_NoSpace_init : He.DefD := ⟨("NoSpace", some "__init__"), "__init__", "NoSpace.__init__", defArgs s_NoSpace_init, defBody s_NoSpace_init, defScope s_NoSpace_init, [], []⟩
abbrev s_TooMany_init : Stmt := inClass (top 22) 0
theorem sc_TooMany_init : FnScope ["self", "limit"] ["self", "limit"] (defScope s_TooMany_init) := ⟨rfl, rfl, rfl, by decide +kernel, rfl, by decide +kernel, by decide +kernel⟩
def d_TooMany_init : He.DefD := ⟨("TooMany", some "__init__"), "__init__", "TooMany.__init__", defArgs s_TooMany_init, defBody s_TooMany_init, defScope s_TooMany_init, [], []⟩
abbrev s_QuotaExceeded_init : Stmt := inClass (top 23) 0
theorem sc_QuotaExceeded_init : FnScope ["self", "name"] ["self", "name"] (defScope s_QuotaExceeded_init) := ⟨rfl, rfl, rfl, by decide +kernel, rfl, by decide +kernel, by decide +kernel⟩
def d_QuotaExceeded_init : He.DefD := ⟨("QuotaExceeded", some "__init__"), "__init__", "QuotaExceeded.__init__", defArgs s_QuotaExceeded_init, defBody s_QuotaExceeded_init, defScope s_QuotaExceeded_init, [], []⟩
abbrev s_InvalidPart_init : Stmt := inClass (top 24) 0
theorem sc_InvalidPart_init : FnScope ["self", "value"] ["self", "value"] (defScope s_InvalidPart_init) := ⟨rfl, rfl, rfl, by decide +kernel, rfl, by decide +kernel, by decide +kernel⟩
def d_InvalidPart_init : He.DefD := ⟨("InvalidPart", some "__init__"), "__init__", "InvalidPart.__init__", defArgs s_InvalidPart_init, defBody s_InvalidPart_init, defScope s_InvalidPart_init, [], []⟩
abbrev s_NoBase_init : Stmt := inClass (top 25) 0
theorem sc_NoBase_init : FnScope ["self", "name"] ["self", "name"] (defScope s_NoBase_init) := ⟨rfl, rfl, rfl, by decide +kernel, rfl, by decide +kernel, by decide +kernel⟩
def d_NoBase_init : He.DefD := ⟨("NoBase", some "__init__"), "__init__", "NoBase.__init__", defArgs s_NoBase_init, defBody s_NoBase_init, defScope s_NoBase_init, [], []⟩
abbrev s_WrongPart_init : Stmt := inClass (top 26) 0
theorem sc_WrongPart_init : FnScope ["self", "number"] ["self", "number"] (defScope s_WrongPart_init) := ⟨rfl, rfl, rfl, by decide +kernel, rfl, by decide +kernel, by decide +kernel⟩
def d_WrongPart_init : He.DefD := ⟨("WrongPart", some "__init__"), "__init__", "WrongPart.__init__", defArgs s_WrongPart_init, defBody s_WrongPart_init, defScope s_WrongPart_init, [], []⟩
abbrev s_BaseDiffers_init : Stmt := inClass (top 27) 0
theorem sc_BaseDiffers_init : FnScope ["self", "name"] ["self", "name"] (defScope s_BaseDiffers_init) := ⟨rfl, rfl, rfl, by decide +kernel, rfl, by decide +kernel, by decide +kernel⟩
def d_BaseDiffers_init : He.DefD := ⟨("BaseDiffers", some "__init__"), "__init__", "BaseDiffers.__init__", defArgs s_BaseDiffers_init, defBody s_BaseDiffers_init, defScope s_BaseDiffers_init, [], []⟩
abbrev s_Altered_init : Stmt := inClass (top 28) 0
theorem sc_Altered_init : FnScope ["self", "name"] ["self", "name"] (defScope s_Altered_init) := ⟨rfl, rfl, rfl, by decide +kernel, rfl, by decide +kernel, by decide +kernel⟩
def d_Altered_init : He.DefD := ⟨("Altered", some "__init__"), "__init__", "Altered.__init__", defArgs s_Altered_init, defBody s_Altered_init, defScope s_Altered_init, [], []⟩
abbrev s_Clashing_init : Stmt := inClass (top 29) 0
theorem sc_Clashing_init : FnScope ["self", "indexes"] ["self", "indexes"] (defScope s_Clashing_init) := ⟨rfl, rfl, rfl, by decide +kernel, rfl, by decide +kernel, by decide +kernel⟩
def d_Clashing_init : He.DefD := ⟨("Clashing", some "__init__"), "__init__", "Clashing.__init__", defArgs s_Clashing_init, defBody s_Clashing_init, defScope s_Clashing_init, [], []⟩
abbrev s_InvalidUser_init : Stmt := inClass (top 30) 0
theorem sc_InvalidUser_init : FnScope ["self", "value"] ["self", "value"] (defScope s_InvalidUser_init) := ⟨rfl, rfl, rfl, by decide +kernel, rfl, by decide +kernel, by decide +kernel⟩
def d_InvalidUser_init : He.DefD := ⟨("InvalidUser", some "__init__"), "__init__", "InvalidUser.__init__", defArgs s_InvalidUser_init, defBody s_InvalidUser_init, defScope s_InvalidUser_init, [], []⟩
abbrev s_InvalidOperation_init : Stmt := inClass (top 31) 0
theorem sc_InvalidOperation_init : FnScope ["self", "value"] ["self", "value"] (defScope s_InvalidOperation_init) := ⟨rfl, rfl, rfl, by decide +kernel, rfl, by decide +kernel, by decide +kernel⟩
def d_InvalidOperation_init : He.DefD := ⟨("InvalidOperation", some "__init__"), "__init__", "InvalidOperation.__init__", defArgs s_InvalidOperation_init, defBody s_InvalidOperation_init, defScope s_InvalidOperation_init, [], []⟩
abbrev s_ParseError_init : Stmt := inClass (top 32) 0
theorem sc_ParseError_init : FnScope ["self", "text"] ["self", "text"] (defScope s_ParseError_init) := ⟨rfl, rfl, rfl, by decide +kernel, rfl, by decide +kernel, by decide +kernel⟩
def d_ParseError_init : He.DefD := ⟨("ParseError", some "__init__"), "__init__", "ParseError.__init__", defArgs s_ParseError_init, defBody s_ParseError_init, defScope s_ParseError_init, [], []⟩
abbrev s_InvalidCommand_init : Stmt := inClass (top 33) 0
theorem sc_InvalidCommand_init : FnScope ["self"] ["self"] (defScope s_InvalidCommand_init) := ⟨rfl, rfl, rfl, by decide +kernel, rfl, by decide +kernel, by decide +kernel⟩
def d_InvalidCommand_init : He.DefD := ⟨("InvalidCommand", some "__init__"), "__init__", "InvalidCommand.__init__", defArgs s_InvalidCommand_init, defBody s_InvalidCommand_init, defScope s_InvalidCommand_init, [], []⟩
abbrev s_NothingToUndo_init : Stmt := inClass (top 34) 0
theorem sc_NothingToUndo_init : FnScope ["self", "user"] ["self", "user"] (defScope s_NothingToUndo_init) := ⟨rfl, rfl, rfl, by decide +kernel, rfl, by decide +kernel, by decide +kernel⟩
def d_NothingToUndo_init : He.DefD := ⟨("NothingToUndo", some "__init__"), "__init__", "NothingToUndo.__init__", defArgs s_NothingToUndo_init, defBody s_NothingToUndo_init, defScope s_NothingToUndo_init, [], []⟩
abbrev s_NothingToRedo_init : Stmt := inClass (top 35) 0
theorem sc_NothingToRedo_init : FnScope ["self", "user"] ["self", "user"] (defScope s_NothingToRedo_init) := ⟨rfl, rfl, rfl, by decide +kernel, rfl, by decide +kernel, by decide +kernel⟩
def d_NothingToRedo_init : He.DefD := ⟨("NothingToRedo", some "__init__"), "__init__", "NothingToRedo.__init__", defArgs s_NothingToRedo_init, defBody s_NothingToRedo_init, defScope s_NothingToRedo_init, [], []⟩
abbrev s_StillNeeded_init : Stmt := inClass (top 36) 0
theorem sc_StillNeeded_init : FnScope ["self", "position"] ["self", "position"] (defScope s_StillNeeded_init) := ⟨rfl, rfl, rfl, by decide +kernel, rfl, by decide +kernel, by decide +kernel⟩
def d_StillNeeded_init : He.DefD := ⟨("StillNeeded", some "__init__"), "__init__", "StillNeeded.__init__", defArgs s_StillNeeded_init, defBody s_StillNeeded_init, defScope s_StillNeeded_init, [], []⟩
abbrev s_law_pool : Stmt := top 38
theorem sc_law_pool : FnScope ["_law_script", "_law_k", "_law_cell", "_law_seed"] ["_law_script", "_law_k"] (defScope s_law_pool) := ⟨rfl, rfl, rfl, by decide +kernel, rfl, by decide +kernel, by decide +kernel⟩
def d_law_pool : He.DefD := ⟨("_law_pool", none), "_law_pool", "_law_pool", defArgs s_law_pool, defBody s_law_pool, defScope s_law_pool, [], []⟩
abbrev s_law_draw : Stmt := top 39
theorem sc_law_draw : FnScope ["_law_pool_here", "_law_many", "_law_digit"] ["_law_pool_here", "_law_many"] (defScope s_law_draw) := ⟨rfl, rfl, rfl, by decide +kernel, rfl, by decide +kernel, by decide +kernel⟩
def d_law_draw : He.DefD := ⟨("_law_draw", none), "_law_draw", "_law_draw", defArgs s_law_draw, defBody s_law_draw, defScope s_law_draw, [], []⟩
abbrev s_law_choose : Stmt := top 40
theorem sc_law_choose : FnScope ["_law_pool_here", "_law_items"] ["_law_pool_here", "_law_items"] (defScope s_law_choose) := ⟨rfl, rfl, rfl, by decide +kernel, rfl, by decide +kernel, by decide +kernel⟩
def d_law_choose : He.DefD := ⟨("_law_choose", none), "_law_choose", "_law_choose", defArgs s_law_choose, defBody s_law_choose, defScope s_law_choose, [], []⟩
abbrev s_law_made : Stmt := top 41
theorem sc_law_made : FnScope ["_law_held", "_law_found"] ["_law_held"] (defScope s_law_made) := ⟨rfl, rfl, rfl, by decide +kernel, rfl, by decide +kernel, by decide +kernel⟩
def d_law_made : He.DefD := ⟨("_law_made", none), "_law_made", "_law_made", defArgs s_law_made, defBody s_law_made, defScope s_law_made, [], []⟩
abbrev s_law_named : Stmt := top 42
theorem sc_law_named : FnScope ["_law_held", "_law_found"] ["_law_held"] (defScope s_law_named) := ⟨rfl, rfl, rfl, by decide +kernel, rfl, by decide +kernel, by decide +kernel⟩
def d_law_named : He.DefD := ⟨("_law_named", none), "_law_named", "_law_named", defArgs s_law_named, defBody s_law_named, defScope s_law_named, [], []⟩
abbrev s_law_kinds : Stmt := top 43
theorem sc_law_kinds : FnScope ["_law_e", "_law_found"] ["_law_e"] (defScope s_law_kinds) := ⟨rfl, rfl, rfl, by decide +kernel, rfl, by decide +kernel, by decide +kernel⟩
def d_law_kinds : He.DefD := ⟨("_law_kinds", none), "_law_kinds", "_law_kinds", defArgs s_law_kinds, defBody s_law_kinds, defScope s_law_kinds, [], []⟩
abbrev s_law_bases : Stmt := top 44
theorem sc_law_bases : FnScope ["_law_e"] ["_law_e"] (defScope s_law_bases) := ⟨rfl, rfl, rfl, by decide +kernel, rfl, by decide +kernel, by decide +kernel⟩
def d_law_bases : He.DefD := ⟨("_law_bases", none), "_law_bases", "_law_bases", defArgs s_law_bases, defBody s_law_bases, defScope s_law_bases, [], []⟩
abbrev s_law_fields : Stmt := top 45
theorem sc_law_fields : FnScope ["_law_made_here", "_law_found"] ["_law_made_here"] (defScope s_law_fields) := ⟨rfl, rfl, rfl, by decide +kernel, rfl, by decide +kernel, by decide +kernel⟩
def d_law_fields : He.DefD := ⟨("_law_fields", none), "_law_fields", "_law_fields", defArgs s_law_fields, defBody s_law_fields, defScope s_law_fields, [], []⟩
abbrev s_law_parts_apart : Stmt := top 46
theorem sc_law_parts_apart : FnScope ["_law_rows", "_law_one"] [] (defScope s_law_parts_apart) := ⟨rfl, rfl, rfl, by decide +kernel, rfl, by decide +kernel, by decide +kernel⟩
def d_law_parts_apart : He.DefD := ⟨("_law_parts_apart", none), "_law_parts_apart", "_law_parts_apart", defArgs s_law_parts_apart, defBody s_law_parts_apart, defScope s_law_parts_apart, [], []⟩
abbrev s_law : Stmt := top 47
theorem sc_law : FnScope ["_law_script", "_law_due", "_law_k", "_law_pool_here", "_law_held", "_law_made_here", "_law_at", "_law_spot"] ["_law_script"] (defScope s_law) := ⟨rfl, rfl, rfl, by decide +kernel, rfl, by decide +kernel, by decide +kernel⟩
def d_law : He.DefD := ⟨("law", none), "law", "law", defArgs s_law, defBody s_law, defScope s_law, [], []⟩
abbrev bnVE : String := "ValueError.__new__"
abbrev bmVE : List Value := [.type "ValueError", .type "Exception", .type "BaseException", .type "object"]
abbrev bnRE : String := "RuntimeError.__new__"
abbrev bmRE : List Value := [.type "RuntimeError", .type "Exception", .type "BaseException", .type "object"]
abbrev bnLE : String := "LookupError.__new__"
abbrev bmLE : List Value := [.type "LookupError", .type "Exception", .type "BaseException", .type "object"]
abbrev bnOE : String := "OverflowError.__new__"
abbrev bmOE : List Value := [.type "OverflowError", .type "ArithmeticError", .type "Exception", .type "BaseException", .type "object"]
abbrev Fd (K : PySem.W.Frag) (d : He.DefD) (fd : FuncData) : Prop := FunD K d.name d.qual d.params d.body d.scope (d.dvs K) (d.kws K) (He.fAd K d.at_) fd
structure Tx (K : PySem.W.Frag) (mg : Str → Option Value) : Prop where
  n_len : mg "len" = none
  n_int : mg "int" = none
  n_max : mg "max" = none
  n_min : mg "min" = none
  n_range : mg "range" = none
  n_isinstance : mg "isinstance" = none
  n_repr : mg "repr" = none
  n_ValueError : mg "ValueError" = none
  n_LookupError : mg "LookupError" = none
  n_RuntimeError : mg "RuntimeError" = none
  n_OverflowError : mg "OverflowError" = none
  v_ValueError : PySem.W.findCls K (.type "ValueError") (.type "type") "__init__" = some (.val (.builtin "ValueError.__init__"))
  v_LookupError : PySem.W.findCls K (.type "LookupError") (.type "type") "__init__" = some (.val (.builtin "LookupError.__init__"))
  v_RuntimeError : PySem.W.findCls K (.type "RuntimeError") (.type "type") "__init__" = some (.val (.builtin "RuntimeError.__init__"))
  v_OverflowError : PySem.W.findCls K (.type "OverflowError") (.type "type") "__init__" = some (.val (.builtin "OverflowError.__init__"))
/-- what the written part says of an exception class -/
structure Tc (K : PySem.W.Frag) (x : Str) (newId : String) (bmB : List Value) : Prop where
  e : My.ExG K (He.ga K x) newId bmB
  xf : XfC K (He.ga K x)
  ec : ExcC K (He.ga K x)
  i : PySem.W.findIn K (.ref (He.ga K x)) "__init__" = some (some (.ref (He.ma K (He.ga K x) "__init__")))
  t : PySem.W.typeIn K (.ref (He.ma K (He.ga K x) "__init__")) = some (.type "function")
section
variable {P : Program} {w : World} {K : PySem.W.Frag} {mg : Str → Option Value} {base : Heap}
theorem in_InvalidBlock (T : Tx K mg) (E : Tc K "InvalidBlock" bnVE bmVE) (n0 : PySem.W.findIn K (.ref (He.ga K "InvalidBlock")) "value" = some none) {fd : FuncData} (F : Fd K d_InvalidBlock_init fd) : FnOk P w K mg base CX0 1 (He.ma K (He.ga K "InvalidBlock") "__init__") fd ["self", "value"] (My.sp_exc K "InvalidBlock" "value") := by
  refine F.ok sc_InvalidBlock_init (fun vs H Q E h => ?_) (fun cdv A outer s H vs Q E' hr h => ?_)
  · obtain ⟨a, v, rfl, _⟩ := h
    rfl
  · obtain ⟨a, v, rfl, ha, q⟩ := h
    refine ⟨_, PSs.nox ((pss_cons (ps_expr (My.pe_gi My.bs_VE rfl T.n_ValueError (by decide +kernel) T.v_ValueError (pa_cons (pv 0) (pa_cons pe_str pa_nil))))
  (pss_one (My.ps_gst My.bs_VE (pv 0) (pv 1))))), ?_⟩
    refine My.x_start (σ := [some (V.ref a), some v]) rfl ?_
    try dsimp only [cxOf, Cx.nox]
    walk_at "go"
    refine ⟨a, _, _, rfl, by decide, E.e, ha, ?_⟩
    walk_at "go"
    exact ⟨a, _, rfl, E.e, n0, .inl ⟨ha, fun dx h1 h2 => q dx h1 h2⟩⟩
theorem in_InvalidRecord (T : Tx K mg) (E : Tc K "InvalidRecord" bnVE bmVE) (n0 : PySem.W.findIn K (.ref (He.ga K "InvalidRecord")) "value" = some none) {fd : FuncData} (F : Fd K d_InvalidRecord_init fd) : FnOk P w K mg base CX0 1 (He.ma K (He.ga K "InvalidRecord") "__init__") fd ["self", "value"] (My.sp_exc K "InvalidRecord" "value") := by
  refine F.ok sc_InvalidRecord_init (fun vs H Q E h => ?_) (fun cdv A outer s H vs Q E' hr h => ?_)
  · obtain ⟨a, v, rfl, _⟩ := h
    rfl
  · obtain ⟨a, v, rfl, ha, q⟩ := h
    refine ⟨_, PSs.nox ((pss_cons (ps_expr (My.pe_gi My.bs_VE rfl T.n_ValueError (by decide +kernel) T.v_ValueError (pa_cons (pv 0) (pa_cons pe_str pa_nil))))
  (pss_one (My.ps_gst My.bs_VE (pv 0) (pv 1))))), ?_⟩
    refine My.x_start (σ := [some (V.ref a), some v]) rfl ?_
    try dsimp only [cxOf, Cx.nox]
    walk_at "go"
    refine ⟨a, _, _, rfl, by decide, E.e, ha, ?_⟩
    walk_at "go"
    exact ⟨a, _, rfl, E.e, n0, .inl ⟨ha, fun dx h1 h2 => q dx h1 h2⟩⟩
theorem in_InvalidDisks (T : Tx K mg) (E : Tc K "InvalidDisks" bnVE bmVE) {fd : FuncData} (F : Fd K d_InvalidDisks_init fd) : FnOk P w K mg base CX0 1 (He.ma K (He.ga K "InvalidDisks") "__init__") fd ["self"] (My.sp_e0 K "InvalidDisks") := by
  refine F.ok sc_InvalidDisks_init (fun vs H Q E h => ?_) (fun cdv A outer s H vs Q E' hr h => ?_)
  · obtain ⟨a, rfl, _⟩ := h
    rfl
  · obtain ⟨a, rfl, ha, q⟩ := h
    refine ⟨_, PSs.nox ((pss_one (ps_expr (My.pe_gi My.bs_VE rfl T.n_ValueError (by decide +kernel) T.v_ValueError (pa_cons (pv 0) (pa_cons pe_str pa_nil)))))), ?_⟩
    refine My.x_start (σ := [some (V.ref a)]) rfl ?_
    try dsimp only [cxOf, Cx.nox]
    walk_at "go"
    refine ⟨a, _, _, rfl, by decide, E.e, ha, ?_⟩
    walk_at "go"
    exact q
theorem in_InvalidName (T : Tx K mg) (E : Tc K "InvalidName" bnVE bmVE) (n0 : PySem.W.findIn K (.ref (He.ga K "InvalidName")) "value" = some none) {fd : FuncData} (F : Fd K d_InvalidName_init fd) : FnOk P w K mg base CX0 1 (He.ma K (He.ga K "InvalidName") "__init__") fd ["self", "value"] (My.sp_exc K "InvalidName" "value") := by
  refine F.ok sc_InvalidName_init (fun vs H Q E h => ?_) (fun cdv A outer s H vs Q E' hr h => ?_)
  · obtain ⟨a, v, rfl, _⟩ := h
    rfl
  · obtain ⟨a, v, rfl, ha, q⟩ := h
    refine ⟨_, PSs.nox ((pss_cons (ps_expr (My.pe_gi My.bs_VE rfl T.n_ValueError (by decide +kernel) T.v_ValueError (pa_cons (pv 0) (pa_cons pe_str pa_nil))))
  (pss_one (My.ps_gst My.bs_VE (pv 0) (pv 1))))), ?_⟩
    refine My.x_start (σ := [some (V.ref a), some v]) rfl ?_
    try dsimp only [cxOf, Cx.nox]
    walk_at "go"
    refine ⟨a, _, _, rfl, by decide, E.e, ha, ?_⟩
    walk_at "go"
    exact ⟨a, _, rfl, E.e, n0, .inl ⟨ha, fun dx h1 h2 => q dx h1 h2⟩⟩
theorem in_InvalidIndex (T : Tx K mg) (E : Tc K "InvalidIndex" bnVE bmVE) (n0 : PySem.W.findIn K (.ref (He.ga K "InvalidIndex")) "value" = some none) {fd : FuncData} (F : Fd K d_InvalidIndex_init fd) : FnOk P w K mg base CX0 1 (He.ma K (He.ga K "InvalidIndex") "__init__") fd ["self", "value"] (My.sp_exc K "InvalidIndex" "value") := by
  refine F.ok sc_InvalidIndex_init (fun vs H Q E h => ?_) (fun cdv A outer s H vs Q E' hr h => ?_)
  · obtain ⟨a, v, rfl, _⟩ := h
    rfl
  · obtain ⟨a, v, rfl, ha, q⟩ := h
    refine ⟨_, PSs.nox ((pss_cons (ps_expr (My.pe_gi My.bs_VE rfl T.n_ValueError (by decide +kernel) T.v_ValueError (pa_cons (pv 0) (pa_cons pe_str pa_nil))))
  (pss_one (My.ps_gst My.bs_VE (pv 0) (pv 1))))), ?_⟩
    refine My.x_start (σ := [some (V.ref a), some v]) rfl ?_
    try dsimp only [cxOf, Cx.nox]
    walk_at "go"
    refine ⟨a, _, _, rfl, by decide, E.e, ha, ?_⟩
    walk_at "go"
    exact ⟨a, _, rfl, E.e, n0, .inl ⟨ha, fun dx h1 h2 => q dx h1 h2⟩⟩
theorem in_InvalidSize (T : Tx K mg) (E : Tc K "InvalidSize" bnVE bmVE) (n0 : PySem.W.findIn K (.ref (He.ga K "InvalidSize")) "value" = some none) {fd : FuncData} (F : Fd K d_InvalidSize_init fd) : FnOk P w K mg base CX0 1 (He.ma K (He.ga K "InvalidSize") "__init__") fd ["self", "value"] (My.sp_exc K "InvalidSize" "value") := by
  refine F.ok sc_InvalidSize_init (fun vs H Q E h => ?_) (fun cdv A outer s H vs Q E' hr h => ?_)
  · obtain ⟨a, v, rfl, _⟩ := h
    rfl
  · obtain ⟨a, v, rfl, ha, q⟩ := h
    refine ⟨_, PSs.nox ((pss_cons (ps_expr (My.pe_gi My.bs_VE rfl T.n_ValueError (by decide +kernel) T.v_ValueError (pa_cons (pv 0) (pa_cons pe_str pa_nil))))
  (pss_one (My.ps_gst My.bs_VE (pv 0) (pv 1))))), ?_⟩
    refine My.x_start (σ := [some (V.ref a), some v]) rfl ?_
    try dsimp only [cxOf, Cx.nox]
    walk_at "go"
    refine ⟨a, _, _, rfl, by decide, E.e, ha, ?_⟩
    walk_at "go"
    exact ⟨a, _, rfl, E.e, n0, .inl ⟨ha, fun dx h1 h2 => q dx h1 h2⟩⟩
theorem in_InvalidData (T : Tx K mg) (E : Tc K "InvalidData" bnVE bmVE) (n0 : PySem.W.findIn K (.ref (He.ga K "InvalidData")) "value" = some none) {fd : FuncData} (F : Fd K d_InvalidData_init fd) : FnOk P w K mg base CX0 1 (He.ma K (He.ga K "InvalidData") "__init__") fd ["self", "value"] (My.sp_exc K "InvalidData" "value") := by
  refine F.ok sc_InvalidData_init (fun vs H Q E h => ?_) (fun cdv A outer s H vs Q E' hr h => ?_)
  · obtain ⟨a, v, rfl, _⟩ := h
    rfl
  · obtain ⟨a, v, rfl, ha, q⟩ := h
    refine ⟨_, PSs.nox ((pss_cons (ps_expr (My.pe_gi My.bs_VE rfl T.n_ValueError (by decide +kernel) T.v_ValueError (pa_cons (pv 0) (pa_cons pe_str pa_nil))))
  (pss_one (My.ps_gst My.bs_VE (pv 0) (pv 1))))), ?_⟩
    refine My.x_start (σ := [some (V.ref a), some v]) rfl ?_
    try dsimp only [cxOf, Cx.nox]
    walk_at "go"
    refine ⟨a, _, _, rfl, by decide, E.e, ha, ?_⟩
    walk_at "go"
    exact ⟨a, _, rfl, E.e, n0, .inl ⟨ha, fun dx h1 h2 => q dx h1 h2⟩⟩
theorem in_InvalidCount (T : Tx K mg) (E : Tc K "InvalidCount" bnVE bmVE) (n0 : PySem.W.findIn K (.ref (He.ga K "InvalidCount")) "value" = some none) {fd : FuncData} (F : Fd K d_InvalidCount_init fd) : FnOk P w K mg base CX0 1 (He.ma K (He.ga K "InvalidCount") "__init__") fd ["self", "value"] (My.sp_exc K "InvalidCount" "value") := by
  refine F.ok sc_InvalidCount_init (fun vs H Q E h => ?_) (fun cdv A outer s H vs Q E' hr h => ?_)
  · obtain ⟨a, v, rfl, _⟩ := h
    rfl
  · obtain ⟨a, v, rfl, ha, q⟩ := h
    refine ⟨_, PSs.nox ((pss_cons (ps_expr (My.pe_gi My.bs_VE rfl T.n_ValueError (by decide +kernel) T.v_ValueError (pa_cons (pv 0) (pa_cons pe_str pa_nil))))
  (pss_one (My.ps_gst My.bs_VE (pv 0) (pv 1))))), ?_⟩
    refine My.x_start (σ := [some (V.ref a), some v]) rfl ?_
    try dsimp only [cxOf, Cx.nox]
    walk_at "go"
    refine ⟨a, _, _, rfl, by decide, E.e, ha, ?_⟩
    walk_at "go"
    exact ⟨a, _, rfl, E.e, n0, .inl ⟨ha, fun dx h1 h2 => q dx h1 h2⟩⟩
theorem in_InvalidArea (T : Tx K mg) (E : Tc K "InvalidArea" bnVE bmVE) (n0 : PySem.W.findIn K (.ref (He.ga K "InvalidArea")) "value" = some none) {fd : FuncData} (F : Fd K d_InvalidArea_init fd) : FnOk P w K mg base CX0 1 (He.ma K (He.ga K "InvalidArea") "__init__") fd ["self", "value"] (My.sp_exc K "InvalidArea" "value") := by
  refine F.ok sc_InvalidArea_init (fun vs H Q E h => ?_) (fun cdv A outer s H vs Q E' hr h => ?_)
  · obtain ⟨a, v, rfl, _⟩ := h
    rfl
  · obtain ⟨a, v, rfl, ha, q⟩ := h
    refine ⟨_, PSs.nox ((pss_cons (ps_expr (My.pe_gi My.bs_VE rfl T.n_ValueError (by decide +kernel) T.v_ValueError (pa_cons (pv 0) (pa_cons pe_str pa_nil))))
  (pss_one (My.ps_gst My.bs_VE (pv 0) (pv 1))))), ?_⟩
    refine My.x_start (σ := [some (V.ref a), some v]) rfl ?_
    try dsimp only [cxOf, Cx.nox]
    walk_at "go"
    refine ⟨a, _, _, rfl, by decide, E.e, ha, ?_⟩
    walk_at "go"
    exact ⟨a, _, rfl, E.e, n0, .inl ⟨ha, fun dx h1 h2 => q dx h1 h2⟩⟩
theorem in_UnknownName (T : Tx K mg) (E : Tc K "UnknownName" bnLE bmLE) (n0 : PySem.W.findIn K (.ref (He.ga K "UnknownName")) "name" = some none) {fd : FuncData} (F : Fd K d_UnknownName_init fd) : FnOk P w K mg base CX0 1 (He.ma K (He.ga K "UnknownName") "__init__") fd ["self", "name"] (My.sp_exc K "UnknownName" "name") := by
  refine F.ok sc_UnknownName_init (fun vs H Q E h => ?_) (fun cdv A outer s H vs Q E' hr h => ?_)
  · obtain ⟨a, v, rfl, _⟩ := h
    rfl
  · obtain ⟨a, v, rfl, ha, q⟩ := h
    refine ⟨_, PSs.nox ((pss_cons (ps_expr (My.pe_gi My.bs_LE rfl T.n_LookupError (by decide +kernel) T.v_LookupError (pa_cons (pv 0) (pa_cons pe_str pa_nil))))
  (pss_one (My.ps_gst My.bs_LE (pv 0) (pv 1))))), ?_⟩
    refine My.x_start (σ := [some (V.ref a), some v]) rfl ?_
    try dsimp only [cxOf, Cx.nox]
    walk_at "go"
    refine ⟨a, _, _, rfl, by decide, E.e, ha, ?_⟩
    walk_at "go"
    exact ⟨a, _, rfl, E.e, n0, .inl ⟨ha, fun dx h1 h2 => q dx h1 h2⟩⟩
theorem in_NameTaken (T : Tx K mg) (E : Tc K "NameTaken" bnLE bmLE) (n0 : PySem.W.findIn K (.ref (He.ga K "NameTaken")) "name" = some none) {fd : FuncData} (F : Fd K d_NameTaken_init fd) : FnOk P w K mg base CX0 1 (He.ma K (He.ga K "NameTaken") "__init__") fd ["self", "name"] (My.sp_exc K "NameTaken" "name") := by
  refine F.ok sc_NameTaken_init (fun vs H Q E h => ?_) (fun cdv A outer s H vs Q E' hr h => ?_)
  · obtain ⟨a, v, rfl, _⟩ := h
    rfl
  · obtain ⟨a, v, rfl, ha, q⟩ := h
    refine ⟨_, PSs.nox ((pss_cons (ps_expr (My.pe_gi My.bs_LE rfl T.n_LookupError (by decide +kernel) T.v_LookupError (pa_cons (pv 0) (pa_cons pe_str pa_nil))))
  (pss_one (My.ps_gst My.bs_LE (pv 0) (pv 1))))), ?_⟩
    refine My.x_start (σ := [some (V.ref a), some v]) rfl ?_
    try dsimp only [cxOf, Cx.nox]
    walk_at "go"
    refine ⟨a, _, _, rfl, by decide, E.e, ha, ?_⟩
    walk_at "go"
    exact ⟨a, _, rfl, E.e, n0, .inl ⟨ha, fun dx h1 h2 => q dx h1 h2⟩⟩
theorem in_NotVolume (T : Tx K mg) (E : Tc K "NotVolume" bnRE bmRE) (n0 : PySem.W.findIn K (.ref (He.ga K "NotVolume")) "name" = some none) {fd : FuncData} (F : Fd K d_NotVolume_init fd) : FnOk P w K mg base CX0 1 (He.ma K (He.ga K "NotVolume") "__init__") fd ["self", "name"] (My.sp_exc K "NotVolume" "name") := by
  refine F.ok sc_NotVolume_init (fun vs H Q E h => ?_) (fun cdv A outer s H vs Q E' hr h => ?_)
  · obtain ⟨a, v, rfl, _⟩ := h
    rfl
  · obtain ⟨a, v, rfl, ha, q⟩ := h
    refine ⟨_, PSs.nox ((pss_cons (ps_expr (My.pe_gi My.bs_RE rfl T.n_RuntimeError (by decide +kernel) T.v_RuntimeError (pa_cons (pv 0) (pa_cons pe_str pa_nil))))
  (pss_one (My.ps_gst My.bs_RE (pv 0) (pv 1))))), ?_⟩
    refine My.x_start (σ := [some (V.ref a), some v]) rfl ?_
    try dsimp only [cxOf, Cx.nox]
    walk_at "go"
    refine ⟨a, _, _, rfl, by decide, E.e, ha, ?_⟩
    walk_at "go"
    exact ⟨a, _, rfl, E.e, n0, .inl ⟨ha, fun dx h1 h2 => q dx h1 h2⟩⟩
theorem in_NotSnapshot (T : Tx K mg) (E : Tc K "NotSnapshot" bnRE bmRE) (n0 : PySem.W.findIn K (.ref (He.ga K "NotSnapshot")) "name" = some none) {fd : FuncData} (F : Fd K d_NotSnapshot_init fd) : FnOk P w K mg base CX0 1 (He.ma K (He.ga K "NotSnapshot") "__init__") fd ["self", "name"] (My.sp_exc K "NotSnapshot" "name") := by
  refine F.ok sc_NotSnapshot_init (fun vs H Q E h => ?_) (fun cdv A outer s H vs Q E' hr h => ?_)
  · obtain ⟨a, v, rfl, _⟩ := h
    rfl
  · obtain ⟨a, v, rfl, ha, q⟩ := h
    refine ⟨_, PSs.nox ((pss_cons (ps_expr (My.pe_gi My.bs_RE rfl T.n_RuntimeError (by decide +kernel) T.v_RuntimeError (pa_cons (pv 0) (pa_cons pe_str pa_nil))))
  (pss_one (My.ps_gst My.bs_RE (pv 0) (pv 1))))), ?_⟩
    refine My.x_start (σ := [some (V.ref a), some v]) rfl ?_
    try dsimp only [cxOf, Cx.nox]
    walk_at "go"
    refine ⟨a, _, _, rfl, by decide, E.e, ha, ?_⟩
    walk_at "go"
    exact ⟨a, _, rfl, E.e, n0, .inl ⟨ha, fun dx h1 h2 => q dx h1 h2⟩⟩
theorem in_NotAncestor (T : Tx K mg) (E : Tc K "NotAncestor" bnRE bmRE) (n0 : PySem.W.findIn K (.ref (He.ga K "NotAncestor")) "name" = some none) {fd : FuncData} (F : Fd K d_NotAncestor_init fd) : FnOk P w K mg base CX0 1 (He.ma K (He.ga K "NotAncestor") "__init__") fd ["self", "name"] (My.sp_exc K "NotAncestor" "name") := by
  refine F.ok sc_NotAncestor_init (fun vs H Q E h => ?_) (fun cdv A outer s H vs Q E' hr h => ?_)
  · obtain ⟨a, v, rfl, _⟩ := h
    rfl
  · obtain ⟨a, v, rfl, ha, q⟩ := h
    refine ⟨_, PSs.nox ((pss_cons (ps_expr (My.pe_gi My.bs_RE rfl T.n_RuntimeError (by decide +kernel) T.v_RuntimeError (pa_cons (pv 0) (pa_cons pe_str pa_nil))))
  (pss_one (My.ps_gst My.bs_RE (pv 0) (pv 1))))), ?_⟩
    refine My.x_start (σ := [some (V.ref a), some v]) rfl ?_
    try dsimp only [cxOf, Cx.nox]
    walk_at "go"
    refine ⟨a, _, _, rfl, by decide, E.e, ha, ?_⟩
    walk_at "go"
    exact ⟨a, _, rfl, E.e, n0, .inl ⟨ha, fun dx h1 h2 => q dx h1 h2⟩⟩
theorem in_Branched (T : Tx K mg) (E : Tc K "Branched" bnRE bmRE) (n0 : PySem.W.findIn K (.ref (He.ga K "Branched")) "name" = some none) {fd : FuncData} (F : Fd K d_Branched_init fd) : FnOk P w K mg base CX0 1 (He.ma K (He.ga K "Branched") "__init__") fd ["self", "name"] (My.sp_exc K "Branched" "name") := by
  refine F.ok sc_Branched_init (fun vs H Q E h => ?_) (fun cdv A outer s H vs Q E' hr h => ?_)
  · obtain ⟨a, v, rfl, _⟩ := h
    rfl
  · obtain ⟨a, v, rfl, ha, q⟩ := h
    refine ⟨_, PSs.nox ((pss_cons (ps_expr (My.pe_gi My.bs_RE rfl T.n_RuntimeError (by decide +kernel) T.v_RuntimeError (pa_cons (pv 0) (pa_cons pe_str pa_nil))))
  (pss_one (My.ps_gst My.bs_RE (pv 0) (pv 1))))), ?_⟩
    refine My.x_start (σ := [some (V.ref a), some v]) rfl ?_
    try dsimp only [cxOf, Cx.nox]
    walk_at "go"
    refine ⟨a, _, _, rfl, by decide, E.e, ha, ?_⟩
    walk_at "go"
    exact ⟨a, _, rfl, E.e, n0, .inl ⟨ha, fun dx h1 h2 => q dx h1 h2⟩⟩
theorem in_Busy (T : Tx K mg) (E : Tc K "Busy" bnRE bmRE) {fd : FuncData} (F : Fd K d_Busy_init fd) : FnOk P w K mg base CX0 1 (He.ma K (He.ga K "Busy") "__init__") fd ["self"] (My.sp_e0 K "Busy") := by
  refine F.ok sc_Busy_init (fun vs H Q E h => ?_) (fun cdv A outer s H vs Q E' hr h => ?_)
  · obtain ⟨a, rfl, _⟩ := h
    rfl
  · obtain ⟨a, rfl, ha, q⟩ := h
    refine ⟨_, PSs.nox ((pss_one (ps_expr (My.pe_gi My.bs_RE rfl T.n_RuntimeError (by decide +kernel) T.v_RuntimeError (pa_cons (pv 0) (pa_cons pe_str pa_nil)))))), ?_⟩
    refine My.x_start (σ := [some (V.ref a)]) rfl ?_
    try dsimp only [cxOf, Cx.nox]
    walk_at "go"
    refine ⟨a, _, _, rfl, by decide, E.e, ha, ?_⟩
    walk_at "go"
    exact q
theorem in_Closed (T : Tx K mg) (E : Tc K "Closed" bnRE bmRE) {fd : FuncData} (F : Fd K d_Closed_init fd) : FnOk P w K mg base CX0 1 (He.ma K (He.ga K "Closed") "__init__") fd ["self"] (My.sp_e0 K "Closed") := by
  refine F.ok sc_Closed_init (fun vs H Q E h => ?_) (fun cdv A outer s H vs Q E' hr h => ?_)
  · obtain ⟨a, rfl, _⟩ := h
    rfl
  · obtain ⟨a, rfl, ha, q⟩ := h
    refine ⟨_, PSs.nox ((pss_one (ps_expr (My.pe_gi My.bs_RE rfl T.n_RuntimeError (by decide +kernel) T.v_RuntimeError (pa_cons (pv 0) (pa_cons pe_str pa_nil)))))), ?_⟩
    refine My.x_start (σ := [some (V.ref a)]) rfl ?_
    try dsimp only [cxOf, Cx.nox]
    walk_at "go"
    refine ⟨a, _, _, rfl, by decide, E.e, ha, ?_⟩
    walk_at "go"
    exact q
theorem in_NoStore (T : Tx K mg) (E : Tc K "NoStore" bnRE bmRE) {fd : FuncData} (F : Fd K d_NoStore_init fd) : FnOk P w K mg base CX0 1 (He.ma K (He.ga K "NoStore") "__init__") fd ["self"] (My.sp_e0 K "NoStore") := by
  refine F.ok sc_NoStore_init (fun vs H Q E h => ?_) (fun cdv A outer s H vs Q E' hr h => ?_)
  · obtain ⟨a, rfl, _⟩ := h
    rfl
  · obtain ⟨a, rfl, ha, q⟩ := h
    refine ⟨_, PSs.nox ((pss_one (ps_expr (My.pe_gi My.bs_RE rfl T.n_RuntimeError (by decide +kernel) T.v_RuntimeError (pa_cons (pv 0) (pa_cons pe_str pa_nil)))))), ?_⟩
    refine My.x_start (σ := [some (V.ref a)]) rfl ?_
    try dsimp only [cxOf, Cx.nox]
    walk_at "go"
    refine ⟨a, _, _, rfl, by decide, E.e, ha, ?_⟩
    walk_at "go"
    exact q
theorem in_Damaged (T : Tx K mg) (E : Tc K "Damaged" bnRE bmRE) (n0 : PySem.W.findIn K (.ref (He.ga K "Damaged")) "name" = some none) (n1 : PySem.W.findIn K (.ref (He.ga K "Damaged")) "index" = some none) {fd : FuncData} (F : Fd K d_Damaged_init fd) : FnOk P w K mg base CX0 1 (He.ma K (He.ga K "Damaged") "__init__") fd ["self", "name", "index"] (My.sp_e2 K "Damaged" "name" "index") := by
  refine F.ok sc_Damaged_init (fun vs H Q E h => ?_) (fun cdv A outer s H vs Q E' hr h => ?_)
  · obtain ⟨a, u, v, rfl, _⟩ := h
    rfl
  · obtain ⟨a, u, v, rfl, ha, q⟩ := h
    refine ⟨_, PSs.nox ((pss_cons (ps_expr (My.pe_gi My.bs_RE rfl T.n_RuntimeError (by decide +kernel) T.v_RuntimeError (pa_cons (pv 0) (pa_cons pe_str pa_nil))))
  (pss_cons (My.ps_gst My.bs_RE (pv 0) (pv 1))
  (pss_one (My.ps_gst My.bs_RE (pv 0) (pv 2)))))), ?_⟩
    refine My.x_start (σ := [some (V.ref a), some u, some v]) rfl ?_
    try dsimp only [cxOf, Cx.nox]
    walk_at "go"
    refine ⟨a, _, _, rfl, by decide, E.e, ha, ?_⟩
    walk_at "go"
    refine ⟨a, _, rfl, E.e, n0, .inl ⟨ha, fun dx h1 h2 => ?_⟩⟩
    walk_at "go"
    refine ⟨a, _, rfl, E.e, n1, .inr ⟨dx, _, upd_same, by rw [upd_ne h2, upd_same], Nat.le_of_ble_eq_true rfl, ?_⟩⟩
    refine q dx _ h1 h2 (fun b o hb e => ?_) (by rw [upd_ne (Ne.symm h2), upd_same]) upd_same
    have hd : b ≠ dx := ne_of_none e h1
    rw [upd_ne hd, upd_ne hb, upd_ne hd]
    exact e
theorem in_PowerLoss (T : Tx K mg) (E : Tc K "PowerLoss" bnRE bmRE) {fd : FuncData} (F : Fd K d_PowerLoss_init fd) : FnOk P w K mg base CX0 1 (He.ma K (He.ga K "PowerLoss") "__init__") fd ["self"] (My.sp_e0 K "PowerLoss") := by
  refine F.ok sc_PowerLoss_init (fun vs H Q E h => ?_) (fun cdv A outer s H vs Q E' hr h => ?_)
  · obtain ⟨a, rfl, _⟩ := h
    rfl
  · obtain ⟨a, rfl, ha, q⟩ := h
    refine ⟨_, PSs.nox ((pss_one (ps_expr (My.pe_gi My.bs_RE rfl T.n_RuntimeError (by decide +kernel) T.v_RuntimeError (pa_cons (pv 0) (pa_cons pe_str pa_nil)))))), ?_⟩
    refine My.x_start (σ := [some (V.ref a)]) rfl ?_
    try dsimp only [cxOf, Cx.nox]
    walk_at "go"
    refine ⟨a, _, _, rfl, by decide, E.e, ha, ?_⟩
    walk_at "go"
    exact q
theorem in_NoSpace (T : Tx K mg) (E : Tc K "NoSpace" bnOE bmOE) (n0 : PySem.W.findIn K (.ref (He.ga K "NoSpace")) "missing" = some none) {fd : FuncData} (F : Fd K d_NoSpace_init fd) : FnOk P w K mg base CX0 1 (He.ma K (He.ga K "NoSpace") "__init__") fd ["self", "missing"] (My.sp_exc K "NoSpace" "missing") := by
  refine F.ok sc_NoSpace_init (fun vs H Q E h => ?_) (fun cdv A outer s H vs Q E' hr h => ?_)
  · obtain ⟨a, v, rfl, _⟩ := h
    rfl
  · obtain ⟨a, v, rfl, ha, q⟩ := h
    refine ⟨_, PSs.nox ((pss_cons (ps_expr (My.pe_gi My.bs_OE rfl T.n_OverflowError (by decide +kernel) T.v_OverflowError (pa_cons (pv 0) (pa_cons pe_str pa_nil))))
  (pss_one (My.ps_gst My.bs_OE (pv 0) (pv 1))))), ?_⟩
    refine My.x_start (σ := [some (V.ref a), some v]) rfl ?_
    try dsimp only [cxOf, Cx.nox]
    walk_at "go"
    refine ⟨a, _, _, rfl, by decide, E.e, ha, ?_⟩
    walk_at "go"
    exact ⟨a, _, rfl, E.e, n0, .inl ⟨ha, fun dx h1 h2 => q dx h1 h2⟩⟩
theorem in_TooMany (T : Tx K mg) (E : Tc K "TooMany" bnOE bmOE) (n0 : PySem.W.findIn K (.ref (He.ga K "TooMany")) "limit" = some none) {fd : FuncData} (F : Fd K d_TooMany_init fd) : FnOk P w K mg base CX0 1 (He.ma K (He.ga K "TooMany") "__init__") fd ["self", "limit"] (My.sp_exc K "TooMany" "limit") := by
  refine F.ok sc_TooMany_init (fun vs H Q E h => ?_) (fun cdv A outer s H vs Q E' hr h => ?_)
  · obtain ⟨a, v, rfl, _⟩ := h
    rfl
  · obtain ⟨a, v, rfl, ha, q⟩ := h
    refine ⟨_, PSs.nox ((pss_cons (ps_expr (My.pe_gi My.bs_OE rfl T.n_OverflowError (by decide +kernel) T.v_OverflowError (pa_cons (pv 0) (pa_cons pe_str pa_nil))))
  (pss_one (My.ps_gst My.bs_OE (pv 0) (pv 1))))), ?_⟩
    refine My.x_start (σ := [some (V.ref a), some v]) rfl ?_
    try dsimp only [cxOf, Cx.nox]
    walk_at "go"
    refine ⟨a, _, _, rfl, by decide, E.e, ha, ?_⟩
    walk_at "go"
    exact ⟨a, _, rfl, E.e, n0, .inl ⟨ha, fun dx h1 h2 => q dx h1 h2⟩⟩
theorem in_QuotaExceeded (T : Tx K mg) (E : Tc K "QuotaExceeded" bnOE bmOE) (n0 : PySem.W.findIn K (.ref (He.ga K "QuotaExceeded")) "name" = some none) {fd : FuncData} (F : Fd K d_QuotaExceeded_init fd) : FnOk P w K mg base CX0 1 (He.ma K (He.ga K "QuotaExceeded") "__init__") fd ["self", "name"] (My.sp_exc K "QuotaExceeded" "name") := by
  refine F.ok sc_QuotaExceeded_init (fun vs H Q E h => ?_) (fun cdv A outer s H vs Q E' hr h => ?_)
  · obtain ⟨a, v, rfl, _⟩ := h
    rfl
  · obtain ⟨a, v, rfl, ha, q⟩ := h
    refine ⟨_, PSs.nox ((pss_cons (ps_expr (My.pe_gi My.bs_OE rfl T.n_OverflowError (by decide +kernel) T.v_OverflowError (pa_cons (pv 0) (pa_cons pe_str pa_nil))))
  (pss_one (My.ps_gst My.bs_OE (pv 0) (pv 1))))), ?_⟩
    refine My.x_start (σ := [some (V.ref a), some v]) rfl ?_
    try dsimp only [cxOf, Cx.nox]
    walk_at "go"
    refine ⟨a, _, _, rfl, by decide, E.e, ha, ?_⟩
    walk_at "go"
    exact ⟨a, _, rfl, E.e, n0, .inl ⟨ha, fun dx h1 h2 => q dx h1 h2⟩⟩
theorem in_InvalidPart (T : Tx K mg) (E : Tc K "InvalidPart" bnVE bmVE) (n0 : PySem.W.findIn K (.ref (He.ga K "InvalidPart")) "value" = some none) {fd : FuncData} (F : Fd K d_InvalidPart_init fd) : FnOk P w K mg base CX0 1 (He.ma K (He.ga K "InvalidPart") "__init__") fd ["self", "value"] (My.sp_exc K "InvalidPart" "value") := by
  refine F.ok sc_InvalidPart_init (fun vs H Q E h => ?_) (fun cdv A outer s H vs Q E' hr h => ?_)
  · obtain ⟨a, v, rfl, _⟩ := h
    rfl
  · obtain ⟨a, v, rfl, ha, q⟩ := h
    refine ⟨_, PSs.nox ((pss_cons (ps_expr (My.pe_gi My.bs_VE rfl T.n_ValueError (by decide +kernel) T.v_ValueError (pa_cons (pv 0) (pa_cons pe_str pa_nil))))
  (pss_one (My.ps_gst My.bs_VE (pv 0) (pv 1))))), ?_⟩
    refine My.x_start (σ := [some (V.ref a), some v]) rfl ?_
    try dsimp only [cxOf, Cx.nox]
    walk_at "go"
    refine ⟨a, _, _, rfl, by decide, E.e, ha, ?_⟩
    walk_at "go"
    exact ⟨a, _, rfl, E.e, n0, .inl ⟨ha, fun dx h1 h2 => q dx h1 h2⟩⟩
theorem in_NoBase (T : Tx K mg) (E : Tc K "NoBase" bnLE bmLE) (n0 : PySem.W.findIn K (.ref (He.ga K "NoBase")) "name" = some none) {fd : FuncData} (F : Fd K d_NoBase_init fd) : FnOk P w K mg base CX0 1 (He.ma K (He.ga K "NoBase") "__init__") fd ["self", "name"] (My.sp_exc K "NoBase" "name") := by
  refine F.ok sc_NoBase_init (fun vs H Q E h => ?_) (fun cdv A outer s H vs Q E' hr h => ?_)
  · obtain ⟨a, v, rfl, _⟩ := h
    rfl
  · obtain ⟨a, v, rfl, ha, q⟩ := h
    refine ⟨_, PSs.nox ((pss_cons (ps_expr (My.pe_gi My.bs_LE rfl T.n_LookupError (by decide +kernel) T.v_LookupError (pa_cons (pv 0) (pa_cons pe_str pa_nil))))
  (pss_one (My.ps_gst My.bs_LE (pv 0) (pv 1))))), ?_⟩
    refine My.x_start (σ := [some (V.ref a), some v]) rfl ?_
    try dsimp only [cxOf, Cx.nox]
    walk_at "go"
    refine ⟨a, _, _, rfl, by decide, E.e, ha, ?_⟩
    walk_at "go"
    exact ⟨a, _, rfl, E.e, n0, .inl ⟨ha, fun dx h1 h2 => q dx h1 h2⟩⟩
theorem in_WrongPart (T : Tx K mg) (E : Tc K "WrongPart" bnRE bmRE) (n0 : PySem.W.findIn K (.ref (He.ga K "WrongPart")) "number" = some none) {fd : FuncData} (F : Fd K d_WrongPart_init fd) : FnOk P w K mg base CX0 1 (He.ma K (He.ga K "WrongPart") "__init__") fd ["self", "number"] (My.sp_exc K "WrongPart" "number") := by
  refine F.ok sc_WrongPart_init (fun vs H Q E h => ?_) (fun cdv A outer s H vs Q E' hr h => ?_)
  · obtain ⟨a, v, rfl, _⟩ := h
    rfl
  · obtain ⟨a, v, rfl, ha, q⟩ := h
    refine ⟨_, PSs.nox ((pss_cons (ps_expr (My.pe_gi My.bs_RE rfl T.n_RuntimeError (by decide +kernel) T.v_RuntimeError (pa_cons (pv 0) (pa_cons pe_str pa_nil))))
  (pss_one (My.ps_gst My.bs_RE (pv 0) (pv 1))))), ?_⟩
    refine My.x_start (σ := [some (V.ref a), some v]) rfl ?_
    try dsimp only [cxOf, Cx.nox]
    walk_at "go"
    refine ⟨a, _, _, rfl, by decide, E.e, ha, ?_⟩
    walk_at "go"
    exact ⟨a, _, rfl, E.e, n0, .inl ⟨ha, fun dx h1 h2 => q dx h1 h2⟩⟩
theorem in_BaseDiffers (T : Tx K mg) (E : Tc K "BaseDiffers" bnRE bmRE) (n0 : PySem.W.findIn K (.ref (He.ga K "BaseDiffers")) "name" = some none) {fd : FuncData} (F : Fd K d_BaseDiffers_init fd) : FnOk P w K mg base CX0 1 (He.ma K (He.ga K "BaseDiffers") "__init__") fd ["self", "name"] (My.sp_exc K "BaseDiffers" "name") := by
  refine F.ok sc_BaseDiffers_init (fun vs H Q E h => ?_) (fun cdv A outer s H vs Q E' hr h => ?_)
  · obtain ⟨a, v, rfl, _⟩ := h
    rfl
  · obtain ⟨a, v, rfl, ha, q⟩ := h
    refine ⟨_, PSs.nox ((pss_cons (ps_expr (My.pe_gi My.bs_RE rfl T.n_RuntimeError (by decide +kernel) T.v_RuntimeError (pa_cons (pv 0) (pa_cons pe_str pa_nil))))
  (pss_one (My.ps_gst My.bs_RE (pv 0) (pv 1))))), ?_⟩
    refine My.x_start (σ := [some (V.ref a), some v]) rfl ?_
    try dsimp only [cxOf, Cx.nox]
    walk_at "go"
    refine ⟨a, _, _, rfl, by decide, E.e, ha, ?_⟩
    walk_at "go"
    exact ⟨a, _, rfl, E.e, n0, .inl ⟨ha, fun dx h1 h2 => q dx h1 h2⟩⟩
theorem in_Altered (T : Tx K mg) (E : Tc K "Altered" bnRE bmRE) (n0 : PySem.W.findIn K (.ref (He.ga K "Altered")) "name" = some none) {fd : FuncData} (F : Fd K d_Altered_init fd) : FnOk P w K mg base CX0 1 (He.ma K (He.ga K "Altered") "__init__") fd ["self", "name"] (My.sp_exc K "Altered" "name") := by
  refine F.ok sc_Altered_init (fun vs H Q E h => ?_) (fun cdv A outer s H vs Q E' hr h => ?_)
  · obtain ⟨a, v, rfl, _⟩ := h
    rfl
  · obtain ⟨a, v, rfl, ha, q⟩ := h
    refine ⟨_, PSs.nox ((pss_cons (ps_expr (My.pe_gi My.bs_RE rfl T.n_RuntimeError (by decide +kernel) T.v_RuntimeError (pa_cons (pv 0) (pa_cons pe_str pa_nil))))
  (pss_one (My.ps_gst My.bs_RE (pv 0) (pv 1))))), ?_⟩
    refine My.x_start (σ := [some (V.ref a), some v]) rfl ?_
    try dsimp only [cxOf, Cx.nox]
    walk_at "go"
    refine ⟨a, _, _, rfl, by decide, E.e, ha, ?_⟩
    walk_at "go"
    exact ⟨a, _, rfl, E.e, n0, .inl ⟨ha, fun dx h1 h2 => q dx h1 h2⟩⟩
theorem in_Clashing (T : Tx K mg) (E : Tc K "Clashing" bnRE bmRE) (n0 : PySem.W.findIn K (.ref (He.ga K "Clashing")) "indexes" = some none) {fd : FuncData} (F : Fd K d_Clashing_init fd) : FnOk P w K mg base CX0 1 (He.ma K (He.ga K "Clashing") "__init__") fd ["self", "indexes"] (My.sp_exc K "Clashing" "indexes") := by
  refine F.ok sc_Clashing_init (fun vs H Q E h => ?_) (fun cdv A outer s H vs Q E' hr h => ?_)
  · obtain ⟨a, v, rfl, _⟩ := h
    rfl
  · obtain ⟨a, v, rfl, ha, q⟩ := h
    refine ⟨_, PSs.nox ((pss_cons (ps_expr (My.pe_gi My.bs_RE rfl T.n_RuntimeError (by decide +kernel) T.v_RuntimeError (pa_cons (pv 0) (pa_cons pe_str pa_nil))))
  (pss_one (My.ps_gst My.bs_RE (pv 0) (pv 1))))), ?_⟩
    refine My.x_start (σ := [some (V.ref a), some v]) rfl ?_
    try dsimp only [cxOf, Cx.nox]
    walk_at "go"
    refine ⟨a, _, _, rfl, by decide, E.e, ha, ?_⟩
    walk_at "go"
    exact ⟨a, _, rfl, E.e, n0, .inl ⟨ha, fun dx h1 h2 => q dx h1 h2⟩⟩
theorem in_InvalidUser (T : Tx K mg) (E : Tc K "InvalidUser" bnVE bmVE) (n0 : PySem.W.findIn K (.ref (He.ga K "InvalidUser")) "value" = some none) {fd : FuncData} (F : Fd K d_InvalidUser_init fd) : FnOk P w K mg base CX0 1 (He.ma K (He.ga K "InvalidUser") "__init__") fd ["self", "value"] (My.sp_exc K "InvalidUser" "value") := by
  refine F.ok sc_InvalidUser_init (fun vs H Q E h => ?_) (fun cdv A outer s H vs Q E' hr h => ?_)
  · obtain ⟨a, v, rfl, _⟩ := h
    rfl
  · obtain ⟨a, v, rfl, ha, q⟩ := h
    refine ⟨_, PSs.nox ((pss_cons (ps_expr (My.pe_gi My.bs_VE rfl T.n_ValueError (by decide +kernel) T.v_ValueError (pa_cons (pv 0) (pa_cons pe_str pa_nil))))
  (pss_one (My.ps_gst My.bs_VE (pv 0) (pv 1))))), ?_⟩
    refine My.x_start (σ := [some (V.ref a), some v]) rfl ?_
    try dsimp only [cxOf, Cx.nox]
    walk_at "go"
    refine ⟨a, _, _, rfl, by decide, E.e, ha, ?_⟩
    walk_at "go"
    exact ⟨a, _, rfl, E.e, n0, .inl ⟨ha, fun dx h1 h2 => q dx h1 h2⟩⟩
theorem in_InvalidOperation (T : Tx K mg) (E : Tc K "InvalidOperation" bnVE bmVE) (n0 : PySem.W.findIn K (.ref (He.ga K "InvalidOperation")) "value" = some none) {fd : FuncData} (F : Fd K d_InvalidOperation_init fd) : FnOk P w K mg base CX0 1 (He.ma K (He.ga K "InvalidOperation") "__init__") fd ["self", "value"] (My.sp_exc K "InvalidOperation" "value") := by
  refine F.ok sc_InvalidOperation_init (fun vs H Q E h => ?_) (fun cdv A outer s H vs Q E' hr h => ?_)
  · obtain ⟨a, v, rfl, _⟩ := h
    rfl
  · obtain ⟨a, v, rfl, ha, q⟩ := h
    refine ⟨_, PSs.nox ((pss_cons (ps_expr (My.pe_gi My.bs_VE rfl T.n_ValueError (by decide +kernel) T.v_ValueError (pa_cons (pv 0) (pa_cons pe_str pa_nil))))
  (pss_one (My.ps_gst My.bs_VE (pv 0) (pv 1))))), ?_⟩
    refine My.x_start (σ := [some (V.ref a), some v]) rfl ?_
    try dsimp only [cxOf, Cx.nox]
    walk_at "go"
    refine ⟨a, _, _, rfl, by decide, E.e, ha, ?_⟩
    walk_at "go"
    exact ⟨a, _, rfl, E.e, n0, .inl ⟨ha, fun dx h1 h2 => q dx h1 h2⟩⟩
theorem in_ParseError (T : Tx K mg) (E : Tc K "ParseError" bnVE bmVE) (n0 : PySem.W.findIn K (.ref (He.ga K "ParseError")) "text" = some none) {fd : FuncData} (F : Fd K d_ParseError_init fd) : FnOk P w K mg base CX0 1 (He.ma K (He.ga K "ParseError") "__init__") fd ["self", "text"] (My.sp_exc K "ParseError" "text") := by
  refine F.ok sc_ParseError_init (fun vs H Q E h => ?_) (fun cdv A outer s H vs Q E' hr h => ?_)
  · obtain ⟨a, v, rfl, _⟩ := h
    rfl
  · obtain ⟨a, v, rfl, ha, q⟩ := h
    refine ⟨_, PSs.nox ((pss_cons (ps_expr (My.pe_gi My.bs_VE rfl T.n_ValueError (by decide +kernel) T.v_ValueError (pa_cons (pv 0) (pa_cons pe_str pa_nil))))
  (pss_one (My.ps_gst My.bs_VE (pv 0) (pv 1))))), ?_⟩
    refine My.x_start (σ := [some (V.ref a), some v]) rfl ?_
    try dsimp only [cxOf, Cx.nox]
    walk_at "go"
    refine ⟨a, _, _, rfl, by decide, E.e, ha, ?_⟩
    walk_at "go"
    exact ⟨a, _, rfl, E.e, n0, .inl ⟨ha, fun dx h1 h2 => q dx h1 h2⟩⟩
theorem in_InvalidCommand (T : Tx K mg) (E : Tc K "InvalidCommand" bnVE bmVE) {fd : FuncData} (F : Fd K d_InvalidCommand_init fd) : FnOk P w K mg base CX0 1 (He.ma K (He.ga K "InvalidCommand") "__init__") fd ["self"] (My.sp_e0 K "InvalidCommand") := by
  refine F.ok sc_InvalidCommand_init (fun vs H Q E h => ?_) (fun cdv A outer s H vs Q E' hr h => ?_)
  · obtain ⟨a, rfl, _⟩ := h
    rfl
  · obtain ⟨a, rfl, ha, q⟩ := h
    refine ⟨_, PSs.nox ((pss_one (ps_expr (My.pe_gi My.bs_VE rfl T.n_ValueError (by decide +kernel) T.v_ValueError (pa_cons (pv 0) (pa_cons pe_str pa_nil)))))), ?_⟩
    refine My.x_start (σ := [some (V.ref a)]) rfl ?_
    try dsimp only [cxOf, Cx.nox]
    walk_at "go"
    refine ⟨a, _, _, rfl, by decide, E.e, ha, ?_⟩
    walk_at "go"
    exact q
theorem in_NothingToUndo (T : Tx K mg) (E : Tc K "NothingToUndo" bnRE bmRE) (n0 : PySem.W.findIn K (.ref (He.ga K "NothingToUndo")) "user" = some none) {fd : FuncData} (F : Fd K d_NothingToUndo_init fd) : FnOk P w K mg base CX0 1 (He.ma K (He.ga K "NothingToUndo") "__init__") fd ["self", "user"] (My.sp_exc K "NothingToUndo" "user") := by
  refine F.ok sc_NothingToUndo_init (fun vs H Q E h => ?_) (fun cdv A outer s H vs Q E' hr h => ?_)
  · obtain ⟨a, v, rfl, _⟩ := h
    rfl
  · obtain ⟨a, v, rfl, ha, q⟩ := h
    refine ⟨_, PSs.nox ((pss_cons (ps_expr (My.pe_gi My.bs_RE rfl T.n_RuntimeError (by decide +kernel) T.v_RuntimeError (pa_cons (pv 0) (pa_cons pe_str pa_nil))))
  (pss_one (My.ps_gst My.bs_RE (pv 0) (pv 1))))), ?_⟩
    refine My.x_start (σ := [some (V.ref a), some v]) rfl ?_
    try dsimp only [cxOf, Cx.nox]
    walk_at "go"
    refine ⟨a, _, _, rfl, by decide, E.e, ha, ?_⟩
    walk_at "go"
    exact ⟨a, _, rfl, E.e, n0, .inl ⟨ha, fun dx h1 h2 => q dx h1 h2⟩⟩
theorem in_NothingToRedo (T : Tx K mg) (E : Tc K "NothingToRedo" bnRE bmRE) (n0 : PySem.W.findIn K (.ref (He.ga K "NothingToRedo")) "user" = some none) {fd : FuncData} (F : Fd K d_NothingToRedo_init fd) : FnOk P w K mg base CX0 1 (He.ma K (He.ga K "NothingToRedo") "__init__") fd ["self", "user"] (My.sp_exc K "NothingToRedo" "user") := by
  refine F.ok sc_NothingToRedo_init (fun vs H Q E h => ?_) (fun cdv A outer s H vs Q E' hr h => ?_)
  · obtain ⟨a, v, rfl, _⟩ := h
    rfl
  · obtain ⟨a, v, rfl, ha, q⟩ := h
    refine ⟨_, PSs.nox ((pss_cons (ps_expr (My.pe_gi My.bs_RE rfl T.n_RuntimeError (by decide +kernel) T.v_RuntimeError (pa_cons (pv 0) (pa_cons pe_str pa_nil))))
  (pss_one (My.ps_gst My.bs_RE (pv 0) (pv 1))))), ?_⟩
    refine My.x_start (σ := [some (V.ref a), some v]) rfl ?_
    try dsimp only [cxOf, Cx.nox]
    walk_at "go"
    refine ⟨a, _, _, rfl, by decide, E.e, ha, ?_⟩
    walk_at "go"
    exact ⟨a, _, rfl, E.e, n0, .inl ⟨ha, fun dx h1 h2 => q dx h1 h2⟩⟩
theorem in_StillNeeded (T : Tx K mg) (E : Tc K "StillNeeded" bnRE bmRE) (n0 : PySem.W.findIn K (.ref (He.ga K "StillNeeded")) "position" = some none) {fd : FuncData} (F : Fd K d_StillNeeded_init fd) : FnOk P w K mg base CX0 1 (He.ma K (He.ga K "StillNeeded") "__init__") fd ["self", "position"] (My.sp_exc K "StillNeeded" "position") := by
  refine F.ok sc_StillNeeded_init (fun vs H Q E h => ?_) (fun cdv A outer s H vs Q E' hr h => ?_)
  · obtain ⟨a, v, rfl, _⟩ := h
    rfl
  · obtain ⟨a, v, rfl, ha, q⟩ := h
    refine ⟨_, PSs.nox ((pss_cons (ps_expr (My.pe_gi My.bs_RE rfl T.n_RuntimeError (by decide +kernel) T.v_RuntimeError (pa_cons (pv 0) (pa_cons pe_str pa_nil))))
  (pss_one (My.ps_gst My.bs_RE (pv 0) (pv 1))))), ?_⟩
    refine My.x_start (σ := [some (V.ref a), some v]) rfl ?_
    try dsimp only [cxOf, Cx.nox]
    walk_at "go"
    refine ⟨a, _, _, rfl, by decide, E.e, ha, ?_⟩
    walk_at "go"
    exact ⟨a, _, rfl, E.e, n0, .inl ⟨ha, fun dx h1 h2 => q dx h1 h2⟩⟩
end
end K36

end

section
local macro_rules | `(tactic| walk_at "ne") => `(tactic| first | assumption | (apply Ne.symm; assumption) | exact L2.ne_of_none (by assumption) (by assumption) | exact (L2.ne_of_none (by assumption) (by assumption)).symm)
local macro_rules | `(tactic| walk_at "hp") => `(tactic| first | assumption | exact L2.upd_same | (rw [L2.upd_ne (by walk_at "ne")]; walk_at "hp"))
local macro_rules | `(tactic| walk_at "sq") => `(tactic| first | assumption | exact L2.SqL.of (by walk_at "hp") | exact My.sq_new (by walk_at "sq") (by assumption))
local macro_rules | `(tactic| walk_at "sd") => `(tactic| first | decide | omega | (unfold L2.CDivN; omega) | (unfold L2.CMul; omega) | (unfold L2.CPow; omega))
local macro_rules | `(tactic| walk_at "sx1") => `(tactic| first | with_reducible refine My.x_seq ?_ | with_reducible refine My.x_asg ?_ | with_reducible refine My.x_ret ?_ | with_reducible refine My.x_next ?_ | with_reducible refine My.x_op ?_ | with_reducible refine My.x_c ?_ | with_reducible refine My.x_ifs ?_ | with_reducible refine My.x_test ?_ | with_reducible refine My.x_exbl ?_ | with_reducible refine My.x_cons ?_ | with_reducible refine My.x_nil ?_ | with_reducible refine My.x_cb ?_ | with_reducible refine My.x_drop ?_ | with_reducible refine My.x_par ?_ | with_reducible refine My.x_exp2 ?_ | with_reducible refine My.x_aug ?_ | with_reducible refine My.x_if ?_ | with_reducible refine My.x_tB ?_ | with_reducible refine My.x_and ?_ | with_reducible refine My.x_or ?_ | with_reducible refine My.x_not ?_ | with_reducible refine My.x_retn ?_ | with_reducible refine My.x_cont ?_ | with_reducible refine My.x_brk ?_ | with_reducible refine My.x_un ?_ | with_reducible refine My.x_tfor ?_ | with_reducible refine My.x_ilist ?_ | with_reducible refine My.x_rng1 ?_ | with_reducible refine My.x_rng2 ?_ | with_reducible refine My.x_r1 ?_ | with_reducible refine My.x_call ?_ | with_reducible refine My.x_sl ?_ | with_reducible refine My.x_part ?_ | with_reducible refine My.x_nopart ?_ | with_reducible refine My.x_ii0 ?_ | with_reducible refine My.x_yes ?_ | with_reducible refine My.x_andv ?_ | with_reducible refine My.x_orv ?_ | with_reducible refine My.x_notv ?_ | with_reducible refine My.x_iT ?_ | with_reducible refine My.x_iF ?_ | with_reducible refine My.x_chain ?_ | with_reducible refine My.x_exI ?_ | with_reducible refine My.x_wipe ?_ | with_reducible refine My.x_bm ?_ | with_reducible refine My.x_bm0 ?_ | with_reducible refine My.x_gsub ?_ | with_reducible refine My.x_int1 ?_ | with_reducible refine My.x_two ?_ | with_reducible refine My.x_lst ?_ | with_reducible refine My.x_tup ?_ | with_reducible refine My.x_revL ?_ | with_reducible refine My.x_dput ?_ | with_reducible refine My.x_dget ?_ | with_reducible refine My.x_dnew ?_ | with_reducible refine My.x_dc ?_ | with_reducible refine My.x_lc ?_ | with_reducible refine My.x_ienum ?_ | with_reducible refine My.x_gcons ?_ | with_reducible refine My.x_gnil ?_ | with_reducible refine My.x_v0 ?_ | with_reducible refine My.x_v1 ?_ | with_reducible refine My.x_v2 ?_ | with_reducible refine My.x_v3 ?_ | with_reducible refine My.x_v4 ?_ | with_reducible refine My.x_v5 ?_ | with_reducible refine My.x_v6 ?_ | with_reducible refine My.x_v7 ?_ | with_reducible refine My.x_v8 ?_ | with_reducible refine My.x_v9 ?_ | with_reducible refine My.x_v10 ?_ | with_reducible refine My.x_v11 ?_ | with_reducible refine My.x_v12 ?_ | with_reducible refine My.x_v13 ?_ | with_reducible refine My.x_v14 ?_ | with_reducible refine My.x_v15 ?_ | with_reducible refine My.x_v16 ?_ | with_reducible refine My.x_v17 ?_ | with_reducible refine My.x_v18 ?_ | with_reducible refine My.x_v19 ?_ | with_reducible refine My.x_v20 ?_ | with_reducible refine My.x_v21 ?_ | with_reducible refine My.x_v22 ?_ | with_reducible refine My.x_v23 ?_ | with_reducible refine My.x_v24 ?_ | with_reducible refine My.x_v25 ?_ | with_reducible refine My.x_g0 ?_ | with_reducible refine My.x_g1 ?_ | with_reducible refine My.x_g2 ?_ | with_reducible refine My.x_g3 ?_ | with_reducible refine My.x_g4 ?_ | with_reducible refine My.x_g5 ?_ | with_reducible refine My.x_g6 ?_ | with_reducible refine My.x_g7 ?_ | with_reducible refine My.x_g8 ?_ | with_reducible refine My.x_g9 ?_ | with_reducible refine My.x_g10 ?_ | with_reducible refine My.x_g11 ?_ | with_reducible refine My.x_g12 ?_ | with_reducible refine My.x_g13 ?_ | with_reducible refine My.x_g14 ?_ | with_reducible refine My.x_g15 ?_ | with_reducible refine My.x_g16 ?_ | with_reducible refine My.x_g17 ?_ | with_reducible refine My.x_g18 ?_ | with_reducible refine My.x_g19 ?_ | with_reducible refine My.x_g20 ?_ | with_reducible refine My.x_g21 ?_ | with_reducible refine My.x_g22 ?_ | with_reducible refine My.x_g23 ?_ | with_reducible refine My.x_g24 ?_ | with_reducible refine My.x_g25 ?_)
local macro_rules | `(tactic| walk_at "sx") => `(tactic| repeat (walk_at "sx1"))
local macro_rules | `(tactic| walk_at "ln") => `(tactic| first | assumption | exact Nat.le_of_ble_eq_true rfl | (simp only [List.length_append, List.length_map, List.length_cons, List.length_nil]; simp only [PySem.sizeLine]; omega))
local macro_rules | `(tactic| walk_at "st") => `(tactic| first | assumption | exact L2.SqT.of (by walk_at "hp"))
local macro_rules | `(tactic| walk_at "go1") => `(tactic| first | walk_at "sx1" | ((with_reducible refine' My.x_ixL ?x0 ?x1 ?x2); (case x0 => walk_at "sq"); (case x1 => exact rfl)) | ((with_reducible refine' My.x_ixT ?x0 ?x1 ?x2); (case x0 => walk_at "st"); (case x1 => exact rfl)) | ((with_reducible refine' My.x_i ?x0 ?x1); (case x0 => walk_at "sd")) | ((with_reducible refine' My.x_setL ?x0 ?x1 ?x2); (case x0 => walk_at "hp"); (case x1 => exact rfl)) | ((with_reducible refine' My.x_len ?x0 ?x1); (case x0 => walk_at "sq")) | ((with_reducible refine' My.x_lenT ?x0 ?x1); (case x0 => walk_at "st")) | ((with_reducible refine' My.x_lenD ?x0 ?x1); (case x0 => walk_at "hp")) | ((with_reducible refine' My.x_append ?x0 ?x1 ?x2); (case x0 => walk_at "hp"); (case x1 => walk_at "ln")) | ((with_reducible refine' My.x_tyL ?x0 ?x1); (case x0 => walk_at "hp")) | ((with_reducible refine' My.x_ilistE ?x0 ?x1); (case x0 => walk_at "sq")) | ((with_reducible refine' My.x_ienumE ?x0 ?x1); (case x0 => walk_at "sq")) | ((with_reducible refine' My.x_sortI ?x0 ?x1); (case x0 => walk_at "sq")) | ((with_reducible refine' My.x_slL ?x0 ?x1); (case x0 => walk_at "sq")) | ((with_reducible refine' My.x_revL2 ?x0 ?x1); (case x0 => walk_at "sq")) | ((with_reducible refine' My.x_eq ?x0 ?x1); (case x0 => exact rfl)) | ((with_reducible refine' My.x_ne ?x0 ?x1); (case x0 => exact rfl)) | ((with_reducible refine' My.x_dputI ?x0 ?x1 ?x2); (case x0 => walk_at "hp"); (case x1 => walk_at "ln")) | ((with_reducible refine' My.x_dputS ?x0 ?x1 ?x2); (case x0 => walk_at "hp"); (case x1 => walk_at "ln")) | ((with_reducible refine' My.x_seqof ?x0 ?x1); (case x0 => walk_at "sq")) | ((with_reducible refine' My.x_gtup ?x0 ?x1 ?x2); (case x0 => walk_at "st"); (case x1 => exact rfl)) | ((with_reducible refine' My.x_mem1 ?x0 ?x1); (case x0 => walk_at "ln")))
local macro_rules | `(tactic| walk_at "go") => `(tactic| repeat (walk_at "go1"))
local macro_rules | `(tactic| walk_at "sx1") => `(tactic| first | with_reducible refine My.x_gx ?_ | with_reducible refine My.x_gxK ?_ | with_reducible refine My.x_gi ?_ | with_reducible refine My.x_gst ?_ | with_reducible refine My.x_xg ?_ | with_reducible refine My.x_nF ?_ | with_reducible refine My.x_nT ?_)
namespace K36
open PySem PySem.Spec PyProof.Rows L2
/-- // by a divisor of fewer than 9000 bits -/
def CDivW (_ j : Int) : Prop := j ≠ 0 ∧ j.natAbs.log2 < 9000
theorem op_fdivW {X : Cx} : OpR X (binaryOp .FloorDiv) (rI CDivW fun i j => .int (i.fdiv j)) := opI fun _ _ _ _ _ _ _ hc q => floordiv_int hc.1 q (.inl (PyProof.noPylong_of_log2 hc.2))
def sp_drawW : Sp := fun vs H Q _ => ∃ (p : Addr) (n c s : Int), vs = [.ref p, .int n] ∧ 0 < n ∧ n.natAbs.log2 < 9000 ∧ H p = some (.lst [.int c, .int s]) ∧ 0 ≤ s ∧ s < 2147483647 ∧
  ∀ d c' s' : Int, 0 ≤ d → d < n → 0 ≤ s' → s' < 2147483647 → Q (.int d) (upd H p (.lst [.int c', .int s']))
theorem x_drawW {H : Hp} {Q : VK} {E : XK} {p : Addr} {n : Int} (P : My.PoolAt H p) (n0 : 0 < n) (n1 : n.natAbs.log2 < 9000) (h : ∀ (d : Int) (H' : Hp), 0 ≤ d → d < n → My.PoolAt H' p → My.But p H H' → Q (.int d) H') : sp_drawW ([V.ref p, .int n] ++ []) H Q E := by
  obtain ⟨c, s, e, s0, s1⟩ := P
  exact ⟨p, n, c, s, rfl, n0, n1, e, s0, s1, fun d c' s' d0 d1 z0 z1 => h d _ d0 d1 ⟨c', s', upd_same, z0, z1⟩ My.But.upd⟩
section
variable {P : Program} {w : World} {K : PySem.W.Frag} {mg : Str → Option Value} {base : Heap}
theorem ok_draw (T : Tx K mg) {fd : FuncData} (F : Fd K d_law_draw fd) : FnOk P w K mg base CX0 1 (He.ga K "_law_draw") fd ["_law_pool_here", "_law_many"] sp_drawW := by
  refine F.ok sc_law_draw (fun vs H Q E h => ?_) (fun cdv A outer s H vs Q E hr h => ?_)
  · obtain ⟨p, n, c, s, rfl, _⟩ := h
    rfl
  · obtain ⟨p, n, c, s, rfl, n0, n1, hp, s0, s1, k⟩ := h
    refine ⟨_, PSs.nox ((pss_cons (ps_if (pt_cmpR op_gt (pe_ix ix_list (pv 0) pe_int (fun _ _ => rfl)) pe_int (nomark _))
  (pss_cons (ps_set (i := 2) sc_law_draw.nd rfl (Or.inl rfl) (pe_op op_modN (pe_callTy call_int1 (by rfl) T.n_int (by decide +kernel) (pa_cons (pe_ix ix_list (pv 0) pe_int (fun _ _ => rfl)) pa_nil)) (pv 1)))
  (pss_cons (ps_asg (pe_op op_fdivW (pe_ix ix_list (pv 0) pe_int (fun _ _ => rfl)) (pv 1)) (pg_sub (pv 0) pe_int set_list))
  (pss_one (ps_ret (pv 2)))))
  pss_nil)
  (pss_cons (ps_asg (pe_op op_modN (pe_callTy call_int1 (by rfl) T.n_int (by decide +kernel) (pa_cons (pe_op op_add (pe_op op_mul (pe_ix ix_list (pv 0) pe_int (fun _ _ => rfl)) pe_int) pe_int) pa_nil)) pe_int) (pg_sub (pv 0) pe_int set_list))
  (pss_one (ps_ret (pe_op op_modN (pe_op op_fdivN (pe_op op_modN (pe_callTy call_int1 (by rfl) T.n_int (by decide +kernel) (pa_cons (pe_op op_mul (pe_ix ix_list (pv 0) pe_int (fun _ _ => rfl)) (pe_ix ix_list (pv 0) pe_int (fun _ _ => rfl))) pa_nil)) pe_int) pe_int) (pv 1))))))), ?_⟩
    refine My.x_start (σ := [some (V.ref p), some (V.int n), none]) rfl ?_
    try dsimp only [cxOf, Cx.nox]
    walk_at "go"
    refine My.x_dec (fun hc => ?_) (fun hc => ?_)
    · walk_at "go"
      refine My.x_i ⟨by omega, n1⟩ ?_
      walk_at "go"
      exact k _ _ _ (Int.fmod_nonneg_of_pos _ n0) (Int.fmod_lt_of_pos _ n0) s0 s1
    · walk_at "go"
      have hm0 := Int.fmod_nonneg_of_pos (s * 48271 + 11) (show (0 : Int) < 2147483647 by decide)
      have hm1 := Int.fmod_lt_of_pos (s * 48271 + 11) (show (0 : Int) < 2147483647 by decide)
      refine My.x_i (.inl ⟨by omega, by omega⟩) ?_
      walk_at "go"
      exact k _ _ _ (Int.fmod_nonneg_of_pos _ n0) (Int.fmod_lt_of_pos _ n0) hm0 hm1
theorem atI_in {ns : List Int} {k : Int} (h0 : 0 ≤ k) (h : k < (ns.length : Int)) : ∃ x, atI (ns.map V.int) k = some (.int x) := by
  obtain ⟨j, rfl⟩ := Int.eq_ofNat_of_zero_le h0
  have hj : j < ns.length := by omega
  exact ⟨ns[j], atI_nat (by rw [List.getElem?_map, List.getElem?_eq_getElem hj]; rfl)⟩
theorem ok_pool (T : Tx K mg) {fd : FuncData} (F : Fd K d_law_pool fd) : FnOk P w K mg base CX0 1 (He.ga K "_law_pool") fd ["_law_script", "_law_k"] (My.sp_pool K) := by
  refine F.ok sc_law_pool (fun vs H Q E h => ?_) (fun cdv A outer s H vs Q E hr h => ?_)
  · obtain ⟨a, ns, k, rfl, _⟩ := h
    rfl
  · obtain ⟨a, ns, k, rfl, hS, k0, k1, q⟩ := h
    refine ⟨_, PSs.nox ((pss_cons (ps_set (i := 2) sc_law_pool.nd rfl (Or.inl rfl) pe_int)
  (pss_cons (ps_if (pt_cmpR op_lt (pv 1) (pe_callB call_len_seq (by rfl) T.n_len (by decide +kernel) (pa_cons (pv 0) pa_nil)) (nomark _))
  (pss_one (ps_set (i := 2) sc_law_pool.nd rfl (Or.inl rfl) (pe_ix ix_list (pv 0) (pv 1) (fun _ _ => rfl))))
  pss_nil)
  (pss_cons (ps_set (i := 3) sc_law_pool.nd rfl (Or.inl rfl) (pe_op op_modN (pe_op op_pow (pe_op op_add (pe_op op_add (pe_op op_modN (pe_callTy call_int1 (by rfl) T.n_int (by decide +kernel) (pa_cons (pv 2) pa_nil)) pe_int) (pe_op op_mul (pe_op op_mul pe_int (pv 1)) (pv 1))) pe_int) pe_int) pe_int))
  (pss_cons (ps_if (pt_cmpR op_lt (pv 2) (pe_op op_pow pe_int pe_int) (nomark _))
  (pss_one (ps_set (i := 2) sc_law_pool.nd rfl (Or.inl rfl) pe_int))
  pss_nil)
  (pss_one (ps_ret (pe_lst (pa_cons (pv 2) (pa_cons (pv 3) pa_nil)))))))))), ?_⟩
    refine My.x_start (σ := [some (V.ref a), some (V.int k), none, none]) rfl ?_
    try dsimp only [cxOf, Cx.nox]
    have key : ∀ c : Int, 0 ≤ c.fmod 2147483629 ∧ c.fmod 2147483629 < 2147483629 := fun c => ⟨Int.fmod_nonneg_of_pos _ (by decide), Int.fmod_lt_of_pos _ (by decide)⟩
    have kk0 : 0 ≤ 7919 * k * k := Int.mul_nonneg (by omega) k0
    have kk1 : 7919 * k * k ≤ 7919 * 1000 * 1000 := Int.mul_le_mul (by omega) (by omega) k0 (by decide)
    have ends : ∀ c z : Int, 0 ≤ z → z < 2147483647 → ∀ p, H p = none → Q (.ref p) (upd H p (.lst [.int c, .int z])) := fun c z h0 h1 p hp => q p c z hp h0 h1
    have m0 : ∀ z : Int, 0 ≤ z.fmod 2147483647 := fun z => Int.fmod_nonneg_of_pos _ (by decide)
    have m1 : ∀ z : Int, z.fmod 2147483647 < 2147483647 := fun z => Int.fmod_lt_of_pos _ (by decide)
    walk_at "go"
    refine My.x_dec (fun hc => ?_) (fun hc => ?_)
    · rw [List.length_map] at hc
      obtain ⟨x, hx⟩ := atI_in k0 hc
      walk_at "go"
      refine My.x_ixL (by walk_at "sq") hx ?_
      have hk := key x
      walk_at "go"
      refine My.x_dec (fun hc => ?_) (fun hc => ?_)
      · walk_at "go"
        exact ends _ _ (m0 _) (m1 _)
      · walk_at "go"
        exact ends _ _ (m0 _) (m1 _)
    · have hk := key 0
      walk_at "go"
      refine My.x_dec (fun hc => ?_) (fun hc => ?_)
      · walk_at "go"
        exact ends _ _ (m0 _) (m1 _)
      · walk_at "go"
        exact ends _ _ (m0 _) (m1 _)


def sp_choose : Sp := fun vs H Q _ => ∃ (p a : Addr) (xs : List V), vs = [.ref p, .ref a] ∧ My.PoolAt H p ∧ H a = some (.lst xs) ∧ a ≠ p ∧ 0 < xs.length ∧ xs.length < 1000 ∧ ∀ (x : V) (H' : Hp), x ∈ xs → My.PoolAt H' p → My.But p H H' → Q x H'
theorem log_small {n : Int} (h0 : 0 < n) (h : n < 1000) : n.natAbs.log2 < 9000 := by
  have : n.natAbs.log2 < 10 := Nat.log2_lt (by omega) |>.mpr (by omega)
  omega
theorem atI_mem {xs : List V} {d : Int} (h0 : 0 ≤ d) (h1 : d < (xs.length : Int)) : ∃ x, atI xs d = some x ∧ x ∈ xs := by
  obtain ⟨j, rfl⟩ := Int.eq_ofNat_of_zero_le h0
  have hj : j < xs.length := by omega
  exact ⟨xs[j], atI_nat (List.getElem?_eq_getElem hj), List.getElem_mem hj⟩
theorem ok_choose (T : Tx K mg) {fd : FuncData} (F : Fd K d_law_choose fd) (C_law_draw : My.Cl P w K mg base "_law_draw" ["_law_pool_here", "_law_many"] 1 sp_drawW) : FnOk P w K mg base CX0 2 (He.ga K "_law_choose") fd ["_law_pool_here", "_law_items"] sp_choose := by
  refine F.ok sc_law_choose (fun vs H Q E h => ?_) (fun cdv A outer s H vs Q E hr h => ?_)
  · obtain ⟨p, a, xs, rfl, _⟩ := h
    rfl
  · obtain ⟨p, a, xs, rfl, hP, ha, hne, h0, h1, q⟩ := h
    refine ⟨_, PSs.nox ((pss_one (ps_ret (pe_ix ix_list (pv 1) (My.pe_cl C_law_draw (hr.mono (by decide)) rfl (pa_cons (pv 0) (pa_cons (pe_callB call_len_seq (by rfl) T.n_len (by decide +kernel) (pa_cons (pv 1) pa_nil)) pa_nil))) (fun _ _ => rfl))))), ?_⟩
    refine My.x_start (σ := [some (V.ref p), some (V.ref a)]) rfl ?_
    try dsimp only [cxOf, Cx.nox]
    walk_at "go"
    refine x_drawW hP (by omega) (log_small (by omega) (by omega)) fun d H1 d0 d1 P1 B1 => ?_
    obtain ⟨x, hx, hm⟩ := atI_mem d0 d1
    refine My.x_ixL (SqL.of (B1.at ha hne)) hx ?_
    exact q x H1 hm P1 B1
end
end K36

end

section
local macro_rules | `(tactic| walk_at "ne") => `(tactic| first | assumption | (apply Ne.symm; assumption) | exact L2.ne_of_none (by assumption) (by assumption) | exact (L2.ne_of_none (by assumption) (by assumption)).symm)
local macro_rules | `(tactic| walk_at "hp") => `(tactic| first | assumption | exact L2.upd_same | (rw [L2.upd_ne (by walk_at "ne")]; walk_at "hp"))
local macro_rules | `(tactic| walk_at "sq") => `(tactic| first | assumption | exact L2.SqL.of (by walk_at "hp") | exact My.sq_new (by walk_at "sq") (by assumption))
local macro_rules | `(tactic| walk_at "sd") => `(tactic| first | decide | omega | (unfold L2.CDivN; omega) | (unfold L2.CMul; omega) | (unfold L2.CPow; omega))
local macro_rules | `(tactic| walk_at "sx1") => `(tactic| first | with_reducible refine My.x_seq ?_ | with_reducible refine My.x_asg ?_ | with_reducible refine My.x_ret ?_ | with_reducible refine My.x_next ?_ | with_reducible refine My.x_op ?_ | with_reducible refine My.x_c ?_ | with_reducible refine My.x_ifs ?_ | with_reducible refine My.x_test ?_ | with_reducible refine My.x_exbl ?_ | with_reducible refine My.x_cons ?_ | with_reducible refine My.x_nil ?_ | with_reducible refine My.x_cb ?_ | with_reducible refine My.x_drop ?_ | with_reducible refine My.x_par ?_ | with_reducible refine My.x_exp2 ?_ | with_reducible refine My.x_aug ?_ | with_reducible refine My.x_if ?_ | with_reducible refine My.x_tB ?_ | with_reducible refine My.x_and ?_ | with_reducible refine My.x_or ?_ | with_reducible refine My.x_not ?_ | with_reducible refine My.x_retn ?_ | with_reducible refine My.x_cont ?_ | with_reducible refine My.x_brk ?_ | with_reducible refine My.x_un ?_ | with_reducible refine My.x_tfor ?_ | with_reducible refine My.x_ilist ?_ | with_reducible refine My.x_rng1 ?_ | with_reducible refine My.x_rng2 ?_ | with_reducible refine My.x_r1 ?_ | with_reducible refine My.x_call ?_ | with_reducible refine My.x_sl ?_ | with_reducible refine My.x_part ?_ | with_reducible refine My.x_nopart ?_ | with_reducible refine My.x_ii0 ?_ | with_reducible refine My.x_yes ?_ | with_reducible refine My.x_andv ?_ | with_reducible refine My.x_orv ?_ | with_reducible refine My.x_notv ?_ | with_reducible refine My.x_iT ?_ | with_reducible refine My.x_iF ?_ | with_reducible refine My.x_chain ?_ | with_reducible refine My.x_exI ?_ | with_reducible refine My.x_wipe ?_ | with_reducible refine My.x_bm ?_ | with_reducible refine My.x_bm0 ?_ | with_reducible refine My.x_gsub ?_ | with_reducible refine My.x_int1 ?_ | with_reducible refine My.x_two ?_ | with_reducible refine My.x_lst ?_ | with_reducible refine My.x_tup ?_ | with_reducible refine My.x_revL ?_ | with_reducible refine My.x_dput ?_ | with_reducible refine My.x_dget ?_ | with_reducible refine My.x_dnew ?_ | with_reducible refine My.x_dc ?_ | with_reducible refine My.x_lc ?_ | with_reducible refine My.x_ienum ?_ | with_reducible refine My.x_gcons ?_ | with_reducible refine My.x_gnil ?_ | with_reducible refine My.x_v0 ?_ | with_reducible refine My.x_v1 ?_ | with_reducible refine My.x_v2 ?_ | with_reducible refine My.x_v3 ?_ | with_reducible refine My.x_v4 ?_ | with_reducible refine My.x_v5 ?_ | with_reducible refine My.x_v6 ?_ | with_reducible refine My.x_v7 ?_ | with_reducible refine My.x_v8 ?_ | with_reducible refine My.x_v9 ?_ | with_reducible refine My.x_v10 ?_ | with_reducible refine My.x_v11 ?_ | with_reducible refine My.x_v12 ?_ | with_reducible refine My.x_v13 ?_ | with_reducible refine My.x_v14 ?_ | with_reducible refine My.x_v15 ?_ | with_reducible refine My.x_v16 ?_ | with_reducible refine My.x_v17 ?_ | with_reducible refine My.x_v18 ?_ | with_reducible refine My.x_v19 ?_ | with_reducible refine My.x_v20 ?_ | with_reducible refine My.x_v21 ?_ | with_reducible refine My.x_v22 ?_ | with_reducible refine My.x_v23 ?_ | with_reducible refine My.x_v24 ?_ | with_reducible refine My.x_v25 ?_ | with_reducible refine My.x_g0 ?_ | with_reducible refine My.x_g1 ?_ | with_reducible refine My.x_g2 ?_ | with_reducible refine My.x_g3 ?_ | with_reducible refine My.x_g4 ?_ | with_reducible refine My.x_g5 ?_ | with_reducible refine My.x_g6 ?_ | with_reducible refine My.x_g7 ?_ | with_reducible refine My.x_g8 ?_ | with_reducible refine My.x_g9 ?_ | with_reducible refine My.x_g10 ?_ | with_reducible refine My.x_g11 ?_ | with_reducible refine My.x_g12 ?_ | with_reducible refine My.x_g13 ?_ | with_reducible refine My.x_g14 ?_ | with_reducible refine My.x_g15 ?_ | with_reducible refine My.x_g16 ?_ | with_reducible refine My.x_g17 ?_ | with_reducible refine My.x_g18 ?_ | with_reducible refine My.x_g19 ?_ | with_reducible refine My.x_g20 ?_ | with_reducible refine My.x_g21 ?_ | with_reducible refine My.x_g22 ?_ | with_reducible refine My.x_g23 ?_ | with_reducible refine My.x_g24 ?_ | with_reducible refine My.x_g25 ?_)
local macro_rules | `(tactic| walk_at "sx") => `(tactic| repeat (walk_at "sx1"))
local macro_rules | `(tactic| walk_at "ln") => `(tactic| first | assumption | exact Nat.le_of_ble_eq_true rfl | (simp only [List.length_append, List.length_map, List.length_cons, List.length_nil]; simp only [PySem.sizeLine]; omega))
local macro_rules | `(tactic| walk_at "st") => `(tactic| first | assumption | exact L2.SqT.of (by walk_at "hp"))
local macro_rules | `(tactic| walk_at "go1") => `(tactic| first | walk_at "sx1" | ((with_reducible refine' My.x_ixL ?x0 ?x1 ?x2); (case x0 => walk_at "sq"); (case x1 => exact rfl)) | ((with_reducible refine' My.x_ixT ?x0 ?x1 ?x2); (case x0 => walk_at "st"); (case x1 => exact rfl)) | ((with_reducible refine' My.x_i ?x0 ?x1); (case x0 => walk_at "sd")) | ((with_reducible refine' My.x_setL ?x0 ?x1 ?x2); (case x0 => walk_at "hp"); (case x1 => exact rfl)) | ((with_reducible refine' My.x_len ?x0 ?x1); (case x0 => walk_at "sq")) | ((with_reducible refine' My.x_lenT ?x0 ?x1); (case x0 => walk_at "st")) | ((with_reducible refine' My.x_lenD ?x0 ?x1); (case x0 => walk_at "hp")) | ((with_reducible refine' My.x_append ?x0 ?x1 ?x2); (case x0 => walk_at "hp"); (case x1 => walk_at "ln")) | ((with_reducible refine' My.x_tyL ?x0 ?x1); (case x0 => walk_at "hp")) | ((with_reducible refine' My.x_ilistE ?x0 ?x1); (case x0 => walk_at "sq")) | ((with_reducible refine' My.x_ienumE ?x0 ?x1); (case x0 => walk_at "sq")) | ((with_reducible refine' My.x_sortI ?x0 ?x1); (case x0 => walk_at "sq")) | ((with_reducible refine' My.x_slL ?x0 ?x1); (case x0 => walk_at "sq")) | ((with_reducible refine' My.x_revL2 ?x0 ?x1); (case x0 => walk_at "sq")) | ((with_reducible refine' My.x_eq ?x0 ?x1); (case x0 => exact rfl)) | ((with_reducible refine' My.x_ne ?x0 ?x1); (case x0 => exact rfl)) | ((with_reducible refine' My.x_dputI ?x0 ?x1 ?x2); (case x0 => walk_at "hp"); (case x1 => walk_at "ln")) | ((with_reducible refine' My.x_dputS ?x0 ?x1 ?x2); (case x0 => walk_at "hp"); (case x1 => walk_at "ln")) | ((with_reducible refine' My.x_seqof ?x0 ?x1); (case x0 => walk_at "sq")) | ((with_reducible refine' My.x_gtup ?x0 ?x1 ?x2); (case x0 => walk_at "st"); (case x1 => exact rfl)) | ((with_reducible refine' My.x_mem1 ?x0 ?x1); (case x0 => walk_at "ln")))
local macro_rules | `(tactic| walk_at "go") => `(tactic| repeat (walk_at "go1"))
local macro_rules | `(tactic| walk_at "sx1") => `(tactic| first | with_reducible refine My.x_gx ?_ | with_reducible refine My.x_gxK ?_ | with_reducible refine My.x_gi ?_ | with_reducible refine My.x_gst ?_ | with_reducible refine My.x_xg ?_ | with_reducible refine My.x_nF ?_ | with_reducible refine My.x_nT ?_)
namespace K36
open PySem PySem.Spec PyProof.Rows L2
def nm : List Str := [("InvalidBlock" : Str), ("InvalidRecord" : Str), ("InvalidDisks" : Str), ("InvalidName" : Str), ("InvalidIndex" : Str), ("InvalidSize" : Str), ("InvalidData" : Str), ("InvalidCount" : Str), ("InvalidArea" : Str), ("UnknownName" : Str), ("NameTaken" : Str), ("NotVolume" : Str), ("NotSnapshot" : Str), ("NotAncestor" : Str), ("Branched" : Str), ("Busy" : Str), ("Closed" : Str), ("NoStore" : Str), ("Damaged" : Str), ("PowerLoss" : Str), ("NoSpace" : Str), ("TooMany" : Str), ("QuotaExceeded" : Str), ("InvalidPart" : Str), ("NoBase" : Str), ("WrongPart" : Str), ("BaseDiffers" : Str), ("Altered" : Str), ("Clashing" : Str), ("InvalidUser" : Str), ("InvalidOperation" : Str), ("ParseError" : Str), ("InvalidCommand" : Str), ("NothingToUndo" : Str), ("NothingToRedo" : Str), ("StillNeeded" : Str)]
abbrev Cn (K : PySem.W.Frag) (i : Nat) : Addr := He.ga K (nm.getD i "")
def due : List Nat := [0, 0, 0, 0, 0, 0, 0, 0, 0, 1, 1, 2, 2, 2, 2, 2, 2, 2, 2, 2, 3, 3, 3, 0, 1, 2, 2, 2, 2, 0, 0, 0, 0, 2, 2, 2]
structure Tab (K : PySem.W.Frag) : Prop where
  kit : ∀ i, i < 36 → ∀ j, j < 36 → PySem.W.kitOne K (.ref (Cn K i)) (.ref (Cn K j)) = some (decide (j = i))
  kb0 : ∀ i, i < 36 → PySem.W.kitOne K (.ref (Cn K i)) (.type "ValueError") = some (decide (0 = due.getD i 9))
  kb1 : ∀ i, i < 36 → PySem.W.kitOne K (.ref (Cn K i)) (.type "LookupError") = some (decide (1 = due.getD i 9))
  kb2 : ∀ i, i < 36 → PySem.W.kitOne K (.ref (Cn K i)) (.type "RuntimeError") = some (decide (2 = due.getD i 9))
  kb3 : ∀ i, i < 36 → PySem.W.kitOne K (.ref (Cn K i)) (.type "OverflowError") = some (decide (3 = due.getD i 9))
  ec : ∀ i, i < 36 → ExcC K (Cn K i)
def sp_kinds (K : PySem.W.Frag) : Sp := fun vs H Q _ => ∃ (e : Addr) (i : Nat) (fs : List (Str × V)), vs = [.ref e] ∧ i < 36 ∧ My.ExAt H e (Cn K i) fs ∧ ∀ (p : Addr) (H' : Hp), Same H H' → H' p = some (.lst ((List.range 36).map fun j => V.bl (decide (j = i)))) → Q (.ref p) H'
def sp_bases (K : PySem.W.Frag) : Sp := fun vs H Q _ => ∃ (e : Addr) (i : Nat) (fs : List (Str × V)), vs = [.ref e] ∧ i < 36 ∧ My.ExAt H e (Cn K i) fs ∧ ∀ (p : Addr) (H' : Hp), Same H H' → H' p = some (.lst ((List.range 4).map fun j => V.bl (decide (j = due.getD i 9)))) → Q (.ref p) H'
section
variable {P : Program} {w : World} {K : PySem.W.Frag} {mg : Str → Option Value} {base : Heap}
theorem ok_bases (T : Tx K mg) (TB : Tab K) {fd : FuncData} (F : Fd K d_law_bases fd) : FnOk P w K mg base CX0 1 (He.ga K "_law_bases") fd ["_law_e"] (sp_bases K) := by
  refine F.ok sc_law_bases (fun vs H Q E h => ?_) (fun cdv A outer s H vs Q E hr h => ?_)
  · obtain ⟨e, i, fs, rfl, _⟩ := h
    rfl
  · obtain ⟨e, i, fs, rfl, hi, hE, q⟩ := h
    refine ⟨_, PSs.nox ((pss_one (ps_ret (pe_lst (pa_cons (pe_callB My.call_isX (by rfl) T.n_isinstance (by decide +kernel) (pa_cons (pv 0) (pa_cons (pe_bltn (v := .ty "ValueError") rfl T.n_ValueError (by decide +kernel) rfl) pa_nil))) (pa_cons (pe_callB My.call_isX (by rfl) T.n_isinstance (by decide +kernel) (pa_cons (pv 0) (pa_cons (pe_bltn (v := .ty "LookupError") rfl T.n_LookupError (by decide +kernel) rfl) pa_nil))) (pa_cons (pe_callB My.call_isX (by rfl) T.n_isinstance (by decide +kernel) (pa_cons (pv 0) (pa_cons (pe_bltn (v := .ty "RuntimeError") rfl T.n_RuntimeError (by decide +kernel) rfl) pa_nil))) (pa_cons (pe_callB My.call_isX (by rfl) T.n_isinstance (by decide +kernel) (pa_cons (pv 0) (pa_cons (pe_bltn (v := .ty "OverflowError") rfl T.n_OverflowError (by decide +kernel) rfl) pa_nil))) pa_nil)))))))), ?_⟩
    refine My.x_start (σ := [some (V.ref e)]) rfl ?_
    try dsimp only [cxOf, Cx.nox]
    walk_at "go"
    refine My.x_isX hE (TB.ec i hi) (.ty _) (TB.kb0 i hi) ?_
    walk_at "go"
    refine My.x_isX hE (TB.ec i hi) (.ty _) (TB.kb1 i hi) ?_
    walk_at "go"
    refine My.x_isX hE (TB.ec i hi) (.ty _) (TB.kb2 i hi) ?_
    walk_at "go"
    refine My.x_isX hE (TB.ec i hi) (.ty _) (TB.kb3 i hi) ?_
    walk_at "go"
    intro p hp
    exact q p _ (My.Same.new (Same.refl H) hp) upd_same
structure Gs (P : Program) (w : World) (K : PySem.W.Frag) (mg : Str → Option Value) (base : Heap) : Prop where
  InvalidBlock : mg "InvalidBlock" = some (.ref (He.ga K "InvalidBlock"))
  InvalidRecord : mg "InvalidRecord" = some (.ref (He.ga K "InvalidRecord"))
  InvalidDisks : mg "InvalidDisks" = some (.ref (He.ga K "InvalidDisks"))
  InvalidName : mg "InvalidName" = some (.ref (He.ga K "InvalidName"))
  InvalidIndex : mg "InvalidIndex" = some (.ref (He.ga K "InvalidIndex"))
  InvalidSize : mg "InvalidSize" = some (.ref (He.ga K "InvalidSize"))
  InvalidData : mg "InvalidData" = some (.ref (He.ga K "InvalidData"))
  InvalidCount : mg "InvalidCount" = some (.ref (He.ga K "InvalidCount"))
  InvalidArea : mg "InvalidArea" = some (.ref (He.ga K "InvalidArea"))
  UnknownName : mg "UnknownName" = some (.ref (He.ga K "UnknownName"))
  NameTaken : mg "NameTaken" = some (.ref (He.ga K "NameTaken"))
  NotVolume : mg "NotVolume" = some (.ref (He.ga K "NotVolume"))
  NotSnapshot : mg "NotSnapshot" = some (.ref (He.ga K "NotSnapshot"))
  NotAncestor : mg "NotAncestor" = some (.ref (He.ga K "NotAncestor"))
  Branched : mg "Branched" = some (.ref (He.ga K "Branched"))
  Busy : mg "Busy" = some (.ref (He.ga K "Busy"))
  Closed : mg "Closed" = some (.ref (He.ga K "Closed"))
  NoStore : mg "NoStore" = some (.ref (He.ga K "NoStore"))
  Damaged : mg "Damaged" = some (.ref (He.ga K "Damaged"))
  PowerLoss : mg "PowerLoss" = some (.ref (He.ga K "PowerLoss"))
  NoSpace : mg "NoSpace" = some (.ref (He.ga K "NoSpace"))
  TooMany : mg "TooMany" = some (.ref (He.ga K "TooMany"))
  QuotaExceeded : mg "QuotaExceeded" = some (.ref (He.ga K "QuotaExceeded"))
  InvalidPart : mg "InvalidPart" = some (.ref (He.ga K "InvalidPart"))
  NoBase : mg "NoBase" = some (.ref (He.ga K "NoBase"))
  WrongPart : mg "WrongPart" = some (.ref (He.ga K "WrongPart"))
  BaseDiffers : mg "BaseDiffers" = some (.ref (He.ga K "BaseDiffers"))
  Altered : mg "Altered" = some (.ref (He.ga K "Altered"))
  Clashing : mg "Clashing" = some (.ref (He.ga K "Clashing"))
  InvalidUser : mg "InvalidUser" = some (.ref (He.ga K "InvalidUser"))
  InvalidOperation : mg "InvalidOperation" = some (.ref (He.ga K "InvalidOperation"))
  ParseError : mg "ParseError" = some (.ref (He.ga K "ParseError"))
  InvalidCommand : mg "InvalidCommand" = some (.ref (He.ga K "InvalidCommand"))
  NothingToUndo : mg "NothingToUndo" = some (.ref (He.ga K "NothingToUndo"))
  NothingToRedo : mg "NothingToRedo" = some (.ref (He.ga K "NothingToRedo"))
  StillNeeded : mg "StillNeeded" = some (.ref (He.ga K "StillNeeded"))
theorem ok_kinds (T : Tx K mg) (TB : Tab K) (G : Gs P w K mg base) {fd : FuncData} (F : Fd K d_law_kinds fd) : FnOk P w K mg base CX0 1 (He.ga K "_law_kinds") fd ["_law_e"] (sp_kinds K) := by
  refine F.ok sc_law_kinds (fun vs H Q E h => ?_) (fun cdv A outer s H vs Q E hr h => ?_)
  · obtain ⟨e, i, fs, rfl, _⟩ := h
    rfl
  · obtain ⟨e, i, fs, rfl, hi, hE, q⟩ := h
    refine ⟨_, PSs.nox ((pss_cons (ps_set (i := 1) sc_law_kinds.nd rfl (Or.inl rfl) (pe_lst pa_nil))
  (pss_cons (ps_set (i := 1) sc_law_kinds.nd rfl (Or.inl rfl) (pe_op op_cat (pv 1) (pe_lst (pa_cons (pe_callB My.call_isX (by rfl) T.n_isinstance (by decide +kernel) (pa_cons (pv 0) (pa_cons (pe_glob (v := .ref (He.ga K "InvalidBlock")) rfl G.InvalidBlock rfl) pa_nil))) (pa_cons (pe_callB My.call_isX (by rfl) T.n_isinstance (by decide +kernel) (pa_cons (pv 0) (pa_cons (pe_glob (v := .ref (He.ga K "InvalidRecord")) rfl G.InvalidRecord rfl) pa_nil))) pa_nil)))))
  (pss_cons (ps_set (i := 1) sc_law_kinds.nd rfl (Or.inl rfl) (pe_op op_cat (pv 1) (pe_lst (pa_cons (pe_callB My.call_isX (by rfl) T.n_isinstance (by decide +kernel) (pa_cons (pv 0) (pa_cons (pe_glob (v := .ref (He.ga K "InvalidDisks")) rfl G.InvalidDisks rfl) pa_nil))) (pa_cons (pe_callB My.call_isX (by rfl) T.n_isinstance (by decide +kernel) (pa_cons (pv 0) (pa_cons (pe_glob (v := .ref (He.ga K "InvalidName")) rfl G.InvalidName rfl) pa_nil))) pa_nil)))))
  (pss_cons (ps_set (i := 1) sc_law_kinds.nd rfl (Or.inl rfl) (pe_op op_cat (pv 1) (pe_lst (pa_cons (pe_callB My.call_isX (by rfl) T.n_isinstance (by decide +kernel) (pa_cons (pv 0) (pa_cons (pe_glob (v := .ref (He.ga K "InvalidIndex")) rfl G.InvalidIndex rfl) pa_nil))) (pa_cons (pe_callB My.call_isX (by rfl) T.n_isinstance (by decide +kernel) (pa_cons (pv 0) (pa_cons (pe_glob (v := .ref (He.ga K "InvalidSize")) rfl G.InvalidSize rfl) pa_nil))) pa_nil)))))
  (pss_cons (ps_set (i := 1) sc_law_kinds.nd rfl (Or.inl rfl) (pe_op op_cat (pv 1) (pe_lst (pa_cons (pe_callB My.call_isX (by rfl) T.n_isinstance (by decide +kernel) (pa_cons (pv 0) (pa_cons (pe_glob (v := .ref (He.ga K "InvalidData")) rfl G.InvalidData rfl) pa_nil))) (pa_cons (pe_callB My.call_isX (by rfl) T.n_isinstance (by decide +kernel) (pa_cons (pv 0) (pa_cons (pe_glob (v := .ref (He.ga K "InvalidCount")) rfl G.InvalidCount rfl) pa_nil))) pa_nil)))))
  (pss_cons (ps_set (i := 1) sc_law_kinds.nd rfl (Or.inl rfl) (pe_op op_cat (pv 1) (pe_lst (pa_cons (pe_callB My.call_isX (by rfl) T.n_isinstance (by decide +kernel) (pa_cons (pv 0) (pa_cons (pe_glob (v := .ref (He.ga K "InvalidArea")) rfl G.InvalidArea rfl) pa_nil))) (pa_cons (pe_callB My.call_isX (by rfl) T.n_isinstance (by decide +kernel) (pa_cons (pv 0) (pa_cons (pe_glob (v := .ref (He.ga K "UnknownName")) rfl G.UnknownName rfl) pa_nil))) pa_nil)))))
  (pss_cons (ps_set (i := 1) sc_law_kinds.nd rfl (Or.inl rfl) (pe_op op_cat (pv 1) (pe_lst (pa_cons (pe_callB My.call_isX (by rfl) T.n_isinstance (by decide +kernel) (pa_cons (pv 0) (pa_cons (pe_glob (v := .ref (He.ga K "NameTaken")) rfl G.NameTaken rfl) pa_nil))) (pa_cons (pe_callB My.call_isX (by rfl) T.n_isinstance (by decide +kernel) (pa_cons (pv 0) (pa_cons (pe_glob (v := .ref (He.ga K "NotVolume")) rfl G.NotVolume rfl) pa_nil))) pa_nil)))))
  (pss_cons (ps_set (i := 1) sc_law_kinds.nd rfl (Or.inl rfl) (pe_op op_cat (pv 1) (pe_lst (pa_cons (pe_callB My.call_isX (by rfl) T.n_isinstance (by decide +kernel) (pa_cons (pv 0) (pa_cons (pe_glob (v := .ref (He.ga K "NotSnapshot")) rfl G.NotSnapshot rfl) pa_nil))) (pa_cons (pe_callB My.call_isX (by rfl) T.n_isinstance (by decide +kernel) (pa_cons (pv 0) (pa_cons (pe_glob (v := .ref (He.ga K "NotAncestor")) rfl G.NotAncestor rfl) pa_nil))) pa_nil)))))
  (pss_cons (ps_set (i := 1) sc_law_kinds.nd rfl (Or.inl rfl) (pe_op op_cat (pv 1) (pe_lst (pa_cons (pe_callB My.call_isX (by rfl) T.n_isinstance (by decide +kernel) (pa_cons (pv 0) (pa_cons (pe_glob (v := .ref (He.ga K "Branched")) rfl G.Branched rfl) pa_nil))) (pa_cons (pe_callB My.call_isX (by rfl) T.n_isinstance (by decide +kernel) (pa_cons (pv 0) (pa_cons (pe_glob (v := .ref (He.ga K "Busy")) rfl G.Busy rfl) pa_nil))) pa_nil)))))
  (pss_cons (ps_set (i := 1) sc_law_kinds.nd rfl (Or.inl rfl) (pe_op op_cat (pv 1) (pe_lst (pa_cons (pe_callB My.call_isX (by rfl) T.n_isinstance (by decide +kernel) (pa_cons (pv 0) (pa_cons (pe_glob (v := .ref (He.ga K "Closed")) rfl G.Closed rfl) pa_nil))) (pa_cons (pe_callB My.call_isX (by rfl) T.n_isinstance (by decide +kernel) (pa_cons (pv 0) (pa_cons (pe_glob (v := .ref (He.ga K "NoStore")) rfl G.NoStore rfl) pa_nil))) pa_nil)))))
  (pss_cons (ps_set (i := 1) sc_law_kinds.nd rfl (Or.inl rfl) (pe_op op_cat (pv 1) (pe_lst (pa_cons (pe_callB My.call_isX (by rfl) T.n_isinstance (by decide +kernel) (pa_cons (pv 0) (pa_cons (pe_glob (v := .ref (He.ga K "Damaged")) rfl G.Damaged rfl) pa_nil))) (pa_cons (pe_callB My.call_isX (by rfl) T.n_isinstance (by decide +kernel) (pa_cons (pv 0) (pa_cons (pe_glob (v := .ref (He.ga K "PowerLoss")) rfl G.PowerLoss rfl) pa_nil))) pa_nil)))))
  (pss_cons (ps_set (i := 1) sc_law_kinds.nd rfl (Or.inl rfl) (pe_op op_cat (pv 1) (pe_lst (pa_cons (pe_callB My.call_isX (by rfl) T.n_isinstance (by decide +kernel) (pa_cons (pv 0) (pa_cons (pe_glob (v := .ref (He.ga K "NoSpace")) rfl G.NoSpace rfl) pa_nil))) (pa_cons (pe_callB My.call_isX (by rfl) T.n_isinstance (by decide +kernel) (pa_cons (pv 0) (pa_cons (pe_glob (v := .ref (He.ga K "TooMany")) rfl G.TooMany rfl) pa_nil))) pa_nil)))))
  (pss_cons (ps_set (i := 1) sc_law_kinds.nd rfl (Or.inl rfl) (pe_op op_cat (pv 1) (pe_lst (pa_cons (pe_callB My.call_isX (by rfl) T.n_isinstance (by decide +kernel) (pa_cons (pv 0) (pa_cons (pe_glob (v := .ref (He.ga K "QuotaExceeded")) rfl G.QuotaExceeded rfl) pa_nil))) (pa_cons (pe_callB My.call_isX (by rfl) T.n_isinstance (by decide +kernel) (pa_cons (pv 0) (pa_cons (pe_glob (v := .ref (He.ga K "InvalidPart")) rfl G.InvalidPart rfl) pa_nil))) pa_nil)))))
  (pss_cons (ps_set (i := 1) sc_law_kinds.nd rfl (Or.inl rfl) (pe_op op_cat (pv 1) (pe_lst (pa_cons (pe_callB My.call_isX (by rfl) T.n_isinstance (by decide +kernel) (pa_cons (pv 0) (pa_cons (pe_glob (v := .ref (He.ga K "NoBase")) rfl G.NoBase rfl) pa_nil))) (pa_cons (pe_callB My.call_isX (by rfl) T.n_isinstance (by decide +kernel) (pa_cons (pv 0) (pa_cons (pe_glob (v := .ref (He.ga K "WrongPart")) rfl G.WrongPart rfl) pa_nil))) pa_nil)))))
  (pss_cons (ps_set (i := 1) sc_law_kinds.nd rfl (Or.inl rfl) (pe_op op_cat (pv 1) (pe_lst (pa_cons (pe_callB My.call_isX (by rfl) T.n_isinstance (by decide +kernel) (pa_cons (pv 0) (pa_cons (pe_glob (v := .ref (He.ga K "BaseDiffers")) rfl G.BaseDiffers rfl) pa_nil))) (pa_cons (pe_callB My.call_isX (by rfl) T.n_isinstance (by decide +kernel) (pa_cons (pv 0) (pa_cons (pe_glob (v := .ref (He.ga K "Altered")) rfl G.Altered rfl) pa_nil))) pa_nil)))))
  (pss_cons (ps_set (i := 1) sc_law_kinds.nd rfl (Or.inl rfl) (pe_op op_cat (pv 1) (pe_lst (pa_cons (pe_callB My.call_isX (by rfl) T.n_isinstance (by decide +kernel) (pa_cons (pv 0) (pa_cons (pe_glob (v := .ref (He.ga K "Clashing")) rfl G.Clashing rfl) pa_nil))) (pa_cons (pe_callB My.call_isX (by rfl) T.n_isinstance (by decide +kernel) (pa_cons (pv 0) (pa_cons (pe_glob (v := .ref (He.ga K "InvalidUser")) rfl G.InvalidUser rfl) pa_nil))) pa_nil)))))
  (pss_cons (ps_set (i := 1) sc_law_kinds.nd rfl (Or.inl rfl) (pe_op op_cat (pv 1) (pe_lst (pa_cons (pe_callB My.call_isX (by rfl) T.n_isinstance (by decide +kernel) (pa_cons (pv 0) (pa_cons (pe_glob (v := .ref (He.ga K "InvalidOperation")) rfl G.InvalidOperation rfl) pa_nil))) (pa_cons (pe_callB My.call_isX (by rfl) T.n_isinstance (by decide +kernel) (pa_cons (pv 0) (pa_cons (pe_glob (v := .ref (He.ga K "ParseError")) rfl G.ParseError rfl) pa_nil))) pa_nil)))))
  (pss_cons (ps_set (i := 1) sc_law_kinds.nd rfl (Or.inl rfl) (pe_op op_cat (pv 1) (pe_lst (pa_cons (pe_callB My.call_isX (by rfl) T.n_isinstance (by decide +kernel) (pa_cons (pv 0) (pa_cons (pe_glob (v := .ref (He.ga K "InvalidCommand")) rfl G.InvalidCommand rfl) pa_nil))) (pa_cons (pe_callB My.call_isX (by rfl) T.n_isinstance (by decide +kernel) (pa_cons (pv 0) (pa_cons (pe_glob (v := .ref (He.ga K "NothingToUndo")) rfl G.NothingToUndo rfl) pa_nil))) pa_nil)))))
  (pss_cons (ps_set (i := 1) sc_law_kinds.nd rfl (Or.inl rfl) (pe_op op_cat (pv 1) (pe_lst (pa_cons (pe_callB My.call_isX (by rfl) T.n_isinstance (by decide +kernel) (pa_cons (pv 0) (pa_cons (pe_glob (v := .ref (He.ga K "NothingToRedo")) rfl G.NothingToRedo rfl) pa_nil))) (pa_cons (pe_callB My.call_isX (by rfl) T.n_isinstance (by decide +kernel) (pa_cons (pv 0) (pa_cons (pe_glob (v := .ref (He.ga K "StillNeeded")) rfl G.StillNeeded rfl) pa_nil))) pa_nil)))))
  (pss_one (ps_ret (pv 1))))))))))))))))))))))), ?_⟩
    refine My.x_start (σ := [some (V.ref e), none]) rfl ?_
    try dsimp only [cxOf, Cx.nox]
    have S : Same H H := Same.refl H
    walk_at "go"
    intro R0 hR0
    have k1 := My.Same.new (o := .lst []) (Same.refl H) hR0
    generalize hH1 : upd H R0 (.lst []) = H1 at k1 ⊢
    replace S := S.trans k1
    have gR0 : H1 R0 = some (.lst []) := by rw [← hH1]; exact upd_same
    clear hH1 k1 hR0
    walk_at "go"
    refine My.x_isX (hE.same S) (TB.ec i hi) (.own _) (TB.kit i hi 0 (by decide)) ?_
    walk_at "go"
    refine My.x_isX (hE.same S) (TB.ec i hi) (.own _) (TB.kit i hi 1 (by decide)) ?_
    walk_at "go"
    intro P hP
    have k2 := My.Same.new (o := .lst [V.bl (decide (0 = i)), V.bl (decide (1 = i))]) (Same.refl H1) hP
    generalize hH2 : upd H1 P (.lst [V.bl (decide (0 = i)), V.bl (decide (1 = i))]) = H2 at k2 ⊢
    replace S := S.trans k2
    replace gR0 := k2 _ _ gR0
    have gP : H2 P = some (.lst [V.bl (decide (0 = i)), V.bl (decide (1 = i))]) := by rw [← hH2]; exact upd_same
    clear hH2 k2 hP
    walk_at "go"
    refine My.x_cat gR0 gP (Nat.le_of_ble_eq_true rfl) fun R1 hR1 => ?_
    have k3 := My.Same.new (o := .lst ([] ++ [V.bl (decide (0 = i)), V.bl (decide (1 = i))])) (Same.refl H2) hR1
    generalize hH3 : upd H2 R1 (.lst ([] ++ [V.bl (decide (0 = i)), V.bl (decide (1 = i))])) = H3 at k3 ⊢
    replace S := S.trans k3
    have gR1 : H3 R1 = some (.lst [V.bl (decide (0 = i)), V.bl (decide (1 = i))]) := by rw [← hH3]; exact upd_same
    clear hH3 k3 hR1 gR0 gP
    walk_at "go"
    refine My.x_isX (hE.same S) (TB.ec i hi) (.own _) (TB.kit i hi 2 (by decide)) ?_
    walk_at "go"
    refine My.x_isX (hE.same S) (TB.ec i hi) (.own _) (TB.kit i hi 3 (by decide)) ?_
    walk_at "go"
    intro P hP
    have k4 := My.Same.new (o := .lst [V.bl (decide (2 = i)), V.bl (decide (3 = i))]) (Same.refl H3) hP
    generalize hH4 : upd H3 P (.lst [V.bl (decide (2 = i)), V.bl (decide (3 = i))]) = H4 at k4 ⊢
    replace S := S.trans k4
    replace gR1 := k4 _ _ gR1
    have gP : H4 P = some (.lst [V.bl (decide (2 = i)), V.bl (decide (3 = i))]) := by rw [← hH4]; exact upd_same
    clear hH4 k4 hP
    walk_at "go"
    refine My.x_cat gR1 gP (Nat.le_of_ble_eq_true rfl) fun R2 hR2 => ?_
    have k5 := My.Same.new (o := .lst ([V.bl (decide (0 = i)), V.bl (decide (1 = i))] ++ [V.bl (decide (2 = i)), V.bl (decide (3 = i))])) (Same.refl H4) hR2
    generalize hH5 : upd H4 R2 (.lst ([V.bl (decide (0 = i)), V.bl (decide (1 = i))] ++ [V.bl (decide (2 = i)), V.bl (decide (3 = i))])) = H5 at k5 ⊢
    replace S := S.trans k5
    have gR2 : H5 R2 = some (.lst [V.bl (decide (0 = i)), V.bl (decide (1 = i)), V.bl (decide (2 = i)), V.bl (decide (3 = i))]) := by rw [← hH5]; exact upd_same
    clear hH5 k5 hR2 gR1 gP
    walk_at "go"
    refine My.x_isX (hE.same S) (TB.ec i hi) (.own _) (TB.kit i hi 4 (by decide)) ?_
    walk_at "go"
    refine My.x_isX (hE.same S) (TB.ec i hi) (.own _) (TB.kit i hi 5 (by decide)) ?_
    walk_at "go"
    intro P hP
    have k6 := My.Same.new (o := .lst [V.bl (decide (4 = i)), V.bl (decide (5 = i))]) (Same.refl H5) hP
    generalize hH6 : upd H5 P (.lst [V.bl (decide (4 = i)), V.bl (decide (5 = i))]) = H6 at k6 ⊢
    replace S := S.trans k6
    replace gR2 := k6 _ _ gR2
    have gP : H6 P = some (.lst [V.bl (decide (4 = i)), V.bl (decide (5 = i))]) := by rw [← hH6]; exact upd_same
    clear hH6 k6 hP
    walk_at "go"
    refine My.x_cat gR2 gP (Nat.le_of_ble_eq_true rfl) fun R3 hR3 => ?_
    have k7 := My.Same.new (o := .lst ([V.bl (decide (0 = i)), V.bl (decide (1 = i)), V.bl (decide (2 = i)), V.bl (decide (3 = i))] ++ [V.bl (decide (4 = i)), V.bl (decide (5 = i))])) (Same.refl H6) hR3
    generalize hH7 : upd H6 R3 (.lst ([V.bl (decide (0 = i)), V.bl (decide (1 = i)), V.bl (decide (2 = i)), V.bl (decide (3 = i))] ++ [V.bl (decide (4 = i)), V.bl (decide (5 = i))])) = H7 at k7 ⊢
    replace S := S.trans k7
    have gR3 : H7 R3 = some (.lst [V.bl (decide (0 = i)), V.bl (decide (1 = i)), V.bl (decide (2 = i)), V.bl (decide (3 = i)), V.bl (decide (4 = i)), V.bl (decide (5 = i))]) := by rw [← hH7]; exact upd_same
    clear hH7 k7 hR3 gR2 gP
    walk_at "go"
    refine My.x_isX (hE.same S) (TB.ec i hi) (.own _) (TB.kit i hi 6 (by decide)) ?_
    walk_at "go"
    refine My.x_isX (hE.same S) (TB.ec i hi) (.own _) (TB.kit i hi 7 (by decide)) ?_
    walk_at "go"
    intro P hP
    have k8 := My.Same.new (o := .lst [V.bl (decide (6 = i)), V.bl (decide (7 = i))]) (Same.refl H7) hP
    generalize hH8 : upd H7 P (.lst [V.bl (decide (6 = i)), V.bl (decide (7 = i))]) = H8 at k8 ⊢
    replace S := S.trans k8
    replace gR3 := k8 _ _ gR3
    have gP : H8 P = some (.lst [V.bl (decide (6 = i)), V.bl (decide (7 = i))]) := by rw [← hH8]; exact upd_same
    clear hH8 k8 hP
    walk_at "go"
    refine My.x_cat gR3 gP (Nat.le_of_ble_eq_true rfl) fun R4 hR4 => ?_
    have k9 := My.Same.new (o := .lst ([V.bl (decide (0 = i)), V.bl (decide (1 = i)), V.bl (decide (2 = i)), V.bl (decide (3 = i)), V.bl (decide (4 = i)), V.bl (decide (5 = i))] ++ [V.bl (decide (6 = i)), V.bl (decide (7 = i))])) (Same.refl H8) hR4
    generalize hH9 : upd H8 R4 (.lst ([V.bl (decide (0 = i)), V.bl (decide (1 = i)), V.bl (decide (2 = i)), V.bl (decide (3 = i)), V.bl (decide (4 = i)), V.bl (decide (5 = i))] ++ [V.bl (decide (6 = i)), V.bl (decide (7 = i))])) = H9 at k9 ⊢
    replace S := S.trans k9
    have gR4 : H9 R4 = some (.lst [V.bl (decide (0 = i)), V.bl (decide (1 = i)), V.bl (decide (2 = i)), V.bl (decide (3 = i)), V.bl (decide (4 = i)), V.bl (decide (5 = i)), V.bl (decide (6 = i)), V.bl (decide (7 = i))]) := by rw [← hH9]; exact upd_same
    clear hH9 k9 hR4 gR3 gP
    walk_at "go"
    refine My.x_isX (hE.same S) (TB.ec i hi) (.own _) (TB.kit i hi 8 (by decide)) ?_
    walk_at "go"
    refine My.x_isX (hE.same S) (TB.ec i hi) (.own _) (TB.kit i hi 9 (by decide)) ?_
    walk_at "go"
    intro P hP
    have k10 := My.Same.new (o := .lst [V.bl (decide (8 = i)), V.bl (decide (9 = i))]) (Same.refl H9) hP
    generalize hH10 : upd H9 P (.lst [V.bl (decide (8 = i)), V.bl (decide (9 = i))]) = H10 at k10 ⊢
    replace S := S.trans k10
    replace gR4 := k10 _ _ gR4
    have gP : H10 P = some (.lst [V.bl (decide (8 = i)), V.bl (decide (9 = i))]) := by rw [← hH10]; exact upd_same
    clear hH10 k10 hP
    walk_at "go"
    refine My.x_cat gR4 gP (Nat.le_of_ble_eq_true rfl) fun R5 hR5 => ?_
    have k11 := My.Same.new (o := .lst ([V.bl (decide (0 = i)), V.bl (decide (1 = i)), V.bl (decide (2 = i)), V.bl (decide (3 = i)), V.bl (decide (4 = i)), V.bl (decide (5 = i)), V.bl (decide (6 = i)), V.bl (decide (7 = i))] ++ [V.bl (decide (8 = i)), V.bl (decide (9 = i))])) (Same.refl H10) hR5
    generalize hH11 : upd H10 R5 (.lst ([V.bl (decide (0 = i)), V.bl (decide (1 = i)), V.bl (decide (2 = i)), V.bl (decide (3 = i)), V.bl (decide (4 = i)), V.bl (decide (5 = i)), V.bl (decide (6 = i)), V.bl (decide (7 = i))] ++ [V.bl (decide (8 = i)), V.bl (decide (9 = i))])) = H11 at k11 ⊢
    replace S := S.trans k11
    have gR5 : H11 R5 = some (.lst [V.bl (decide (0 = i)), V.bl (decide (1 = i)), V.bl (decide (2 = i)), V.bl (decide (3 = i)), V.bl (decide (4 = i)), V.bl (decide (5 = i)), V.bl (decide (6 = i)), V.bl (decide (7 = i)), V.bl (decide (8 = i)), V.bl (decide (9 = i))]) := by rw [← hH11]; exact upd_same
    clear hH11 k11 hR5 gR4 gP
    walk_at "go"
    refine My.x_isX (hE.same S) (TB.ec i hi) (.own _) (TB.kit i hi 10 (by decide)) ?_
    walk_at "go"
    refine My.x_isX (hE.same S) (TB.ec i hi) (.own _) (TB.kit i hi 11 (by decide)) ?_
    walk_at "go"
    intro P hP
    have k12 := My.Same.new (o := .lst [V.bl (decide (10 = i)), V.bl (decide (11 = i))]) (Same.refl H11) hP
    generalize hH12 : upd H11 P (.lst [V.bl (decide (10 = i)), V.bl (decide (11 = i))]) = H12 at k12 ⊢
    replace S := S.trans k12
    replace gR5 := k12 _ _ gR5
    have gP : H12 P = some (.lst [V.bl (decide (10 = i)), V.bl (decide (11 = i))]) := by rw [← hH12]; exact upd_same
    clear hH12 k12 hP
    walk_at "go"
    refine My.x_cat gR5 gP (Nat.le_of_ble_eq_true rfl) fun R6 hR6 => ?_
    have k13 := My.Same.new (o := .lst ([V.bl (decide (0 = i)), V.bl (decide (1 = i)), V.bl (decide (2 = i)), V.bl (decide (3 = i)), V.bl (decide (4 = i)), V.bl (decide (5 = i)), V.bl (decide (6 = i)), V.bl (decide (7 = i)), V.bl (decide (8 = i)), V.bl (decide (9 = i))] ++ [V.bl (decide (10 = i)), V.bl (decide (11 = i))])) (Same.refl H12) hR6
    generalize hH13 : upd H12 R6 (.lst ([V.bl (decide (0 = i)), V.bl (decide (1 = i)), V.bl (decide (2 = i)), V.bl (decide (3 = i)), V.bl (decide (4 = i)), V.bl (decide (5 = i)), V.bl (decide (6 = i)), V.bl (decide (7 = i)), V.bl (decide (8 = i)), V.bl (decide (9 = i))] ++ [V.bl (decide (10 = i)), V.bl (decide (11 = i))])) = H13 at k13 ⊢
    replace S := S.trans k13
    have gR6 : H13 R6 = some (.lst [V.bl (decide (0 = i)), V.bl (decide (1 = i)), V.bl (decide (2 = i)), V.bl (decide (3 = i)), V.bl (decide (4 = i)), V.bl (decide (5 = i)), V.bl (decide (6 = i)), V.bl (decide (7 = i)), V.bl (decide (8 = i)), V.bl (decide (9 = i)), V.bl (decide (10 = i)), V.bl (decide (11 = i))]) := by rw [← hH13]; exact upd_same
    clear hH13 k13 hR6 gR5 gP
    walk_at "go"
    refine My.x_isX (hE.same S) (TB.ec i hi) (.own _) (TB.kit i hi 12 (by decide)) ?_
    walk_at "go"
    refine My.x_isX (hE.same S) (TB.ec i hi) (.own _) (TB.kit i hi 13 (by decide)) ?_
    walk_at "go"
    intro P hP
    have k14 := My.Same.new (o := .lst [V.bl (decide (12 = i)), V.bl (decide (13 = i))]) (Same.refl H13) hP
    generalize hH14 : upd H13 P (.lst [V.bl (decide (12 = i)), V.bl (decide (13 = i))]) = H14 at k14 ⊢
    replace S := S.trans k14
    replace gR6 := k14 _ _ gR6
    have gP : H14 P = some (.lst [V.bl (decide (12 = i)), V.bl (decide (13 = i))]) := by rw [← hH14]; exact upd_same
    clear hH14 k14 hP
    walk_at "go"
    refine My.x_cat gR6 gP (Nat.le_of_ble_eq_true rfl) fun R7 hR7 => ?_
    have k15 := My.Same.new (o := .lst ([V.bl (decide (0 = i)), V.bl (decide (1 = i)), V.bl (decide (2 = i)), V.bl (decide (3 = i)), V.bl (decide (4 = i)), V.bl (decide (5 = i)), V.bl (decide (6 = i)), V.bl (decide (7 = i)), V.bl (decide (8 = i)), V.bl (decide (9 = i)), V.bl (decide (10 = i)), V.bl (decide (11 = i))] ++ [V.bl (decide (12 = i)), V.bl (decide (13 = i))])) (Same.refl H14) hR7
    generalize hH15 : upd H14 R7 (.lst ([V.bl (decide (0 = i)), V.bl (decide (1 = i)), V.bl (decide (2 = i)), V.bl (decide (3 = i)), V.bl (decide (4 = i)), V.bl (decide (5 = i)), V.bl (decide (6 = i)), V.bl (decide (7 = i)), V.bl (decide (8 = i)), V.bl (decide (9 = i)), V.bl (decide (10 = i)), V.bl (decide (11 = i))] ++ [V.bl (decide (12 = i)), V.bl (decide (13 = i))])) = H15 at k15 ⊢
    replace S := S.trans k15
    have gR7 : H15 R7 = some (.lst [V.bl (decide (0 = i)), V.bl (decide (1 = i)), V.bl (decide (2 = i)), V.bl (decide (3 = i)), V.bl (decide (4 = i)), V.bl (decide (5 = i)), V.bl (decide (6 = i)), V.bl (decide (7 = i)), V.bl (decide (8 = i)), V.bl (decide (9 = i)), V.bl (decide (10 = i)), V.bl (decide (11 = i)), V.bl (decide (12 = i)), V.bl (decide (13 = i))]) := by rw [← hH15]; exact upd_same
    clear hH15 k15 hR7 gR6 gP
    walk_at "go"
    refine My.x_isX (hE.same S) (TB.ec i hi) (.own _) (TB.kit i hi 14 (by decide)) ?_
    walk_at "go"
    refine My.x_isX (hE.same S) (TB.ec i hi) (.own _) (TB.kit i hi 15 (by decide)) ?_
    walk_at "go"
    intro P hP
    have k16 := My.Same.new (o := .lst [V.bl (decide (14 = i)), V.bl (decide (15 = i))]) (Same.refl H15) hP
    generalize hH16 : upd H15 P (.lst [V.bl (decide (14 = i)), V.bl (decide (15 = i))]) = H16 at k16 ⊢
    replace S := S.trans k16
    replace gR7 := k16 _ _ gR7
    have gP : H16 P = some (.lst [V.bl (decide (14 = i)), V.bl (decide (15 = i))]) := by rw [← hH16]; exact upd_same
    clear hH16 k16 hP
    walk_at "go"
    refine My.x_cat gR7 gP (Nat.le_of_ble_eq_true rfl) fun R8 hR8 => ?_
    have k17 := My.Same.new (o := .lst ([V.bl (decide (0 = i)), V.bl (decide (1 = i)), V.bl (decide (2 = i)), V.bl (decide (3 = i)), V.bl (decide (4 = i)), V.bl (decide (5 = i)), V.bl (decide (6 = i)), V.bl (decide (7 = i)), V.bl (decide (8 = i)), V.bl (decide (9 = i)), V.bl (decide (10 = i)), V.bl (decide (11 = i)), V.bl (decide (12 = i)), V.bl (decide (13 = i))] ++ [V.bl (decide (14 = i)), V.bl (decide (15 = i))])) (Same.refl H16) hR8
    generalize hH17 : upd H16 R8 (.lst ([V.bl (decide (0 = i)), V.bl (decide (1 = i)), V.bl (decide (2 = i)), V.bl (decide (3 = i)), V.bl (decide (4 = i)), V.bl (decide (5 = i)), V.bl (decide (6 = i)), V.bl (decide (7 = i)), V.bl (decide (8 = i)), V.bl (decide (9 = i)), V.bl (decide (10 = i)), V.bl (decide (11 = i)), V.bl (decide (12 = i)), V.bl (decide (13 = i))] ++ [V.bl (decide (14 = i)), V.bl (decide (15 = i))])) = H17 at k17 ⊢
    replace S := S.trans k17
    have gR8 : H17 R8 = some (.lst [V.bl (decide (0 = i)), V.bl (decide (1 = i)), V.bl (decide (2 = i)), V.bl (decide (3 = i)), V.bl (decide (4 = i)), V.bl (decide (5 = i)), V.bl (decide (6 = i)), V.bl (decide (7 = i)), V.bl (decide (8 = i)), V.bl (decide (9 = i)), V.bl (decide (10 = i)), V.bl (decide (11 = i)), V.bl (decide (12 = i)), V.bl (decide (13 = i)), V.bl (decide (14 = i)), V.bl (decide (15 = i))]) := by rw [← hH17]; exact upd_same
    clear hH17 k17 hR8 gR7 gP
    walk_at "go"
    refine My.x_isX (hE.same S) (TB.ec i hi) (.own _) (TB.kit i hi 16 (by decide)) ?_
    walk_at "go"
    refine My.x_isX (hE.same S) (TB.ec i hi) (.own _) (TB.kit i hi 17 (by decide)) ?_
    walk_at "go"
    intro P hP
    have k18 := My.Same.new (o := .lst [V.bl (decide (16 = i)), V.bl (decide (17 = i))]) (Same.refl H17) hP
    generalize hH18 : upd H17 P (.lst [V.bl (decide (16 = i)), V.bl (decide (17 = i))]) = H18 at k18 ⊢
    replace S := S.trans k18
    replace gR8 := k18 _ _ gR8
    have gP : H18 P = some (.lst [V.bl (decide (16 = i)), V.bl (decide (17 = i))]) := by rw [← hH18]; exact upd_same
    clear hH18 k18 hP
    walk_at "go"
    refine My.x_cat gR8 gP (Nat.le_of_ble_eq_true rfl) fun R9 hR9 => ?_
    have k19 := My.Same.new (o := .lst ([V.bl (decide (0 = i)), V.bl (decide (1 = i)), V.bl (decide (2 = i)), V.bl (decide (3 = i)), V.bl (decide (4 = i)), V.bl (decide (5 = i)), V.bl (decide (6 = i)), V.bl (decide (7 = i)), V.bl (decide (8 = i)), V.bl (decide (9 = i)), V.bl (decide (10 = i)), V.bl (decide (11 = i)), V.bl (decide (12 = i)), V.bl (decide (13 = i)), V.bl (decide (14 = i)), V.bl (decide (15 = i))] ++ [V.bl (decide (16 = i)), V.bl (decide (17 = i))])) (Same.refl H18) hR9
    generalize hH19 : upd H18 R9 (.lst ([V.bl (decide (0 = i)), V.bl (decide (1 = i)), V.bl (decide (2 = i)), V.bl (decide (3 = i)), V.bl (decide (4 = i)), V.bl (decide (5 = i)), V.bl (decide (6 = i)), V.bl (decide (7 = i)), V.bl (decide (8 = i)), V.bl (decide (9 = i)), V.bl (decide (10 = i)), V.bl (decide (11 = i)), V.bl (decide (12 = i)), V.bl (decide (13 = i)), V.bl (decide (14 = i)), V.bl (decide (15 = i))] ++ [V.bl (decide (16 = i)), V.bl (decide (17 = i))])) = H19 at k19 ⊢
    replace S := S.trans k19
    have gR9 : H19 R9 = some (.lst [V.bl (decide (0 = i)), V.bl (decide (1 = i)), V.bl (decide (2 = i)), V.bl (decide (3 = i)), V.bl (decide (4 = i)), V.bl (decide (5 = i)), V.bl (decide (6 = i)), V.bl (decide (7 = i)), V.bl (decide (8 = i)), V.bl (decide (9 = i)), V.bl (decide (10 = i)), V.bl (decide (11 = i)), V.bl (decide (12 = i)), V.bl (decide (13 = i)), V.bl (decide (14 = i)), V.bl (decide (15 = i)), V.bl (decide (16 = i)), V.bl (decide (17 = i))]) := by rw [← hH19]; exact upd_same
    clear hH19 k19 hR9 gR8 gP
    walk_at "go"
    refine My.x_isX (hE.same S) (TB.ec i hi) (.own _) (TB.kit i hi 18 (by decide)) ?_
    walk_at "go"
    refine My.x_isX (hE.same S) (TB.ec i hi) (.own _) (TB.kit i hi 19 (by decide)) ?_
    walk_at "go"
    intro P hP
    have k20 := My.Same.new (o := .lst [V.bl (decide (18 = i)), V.bl (decide (19 = i))]) (Same.refl H19) hP
    generalize hH20 : upd H19 P (.lst [V.bl (decide (18 = i)), V.bl (decide (19 = i))]) = H20 at k20 ⊢
    replace S := S.trans k20
    replace gR9 := k20 _ _ gR9
    have gP : H20 P = some (.lst [V.bl (decide (18 = i)), V.bl (decide (19 = i))]) := by rw [← hH20]; exact upd_same
    clear hH20 k20 hP
    walk_at "go"
    refine My.x_cat gR9 gP (Nat.le_of_ble_eq_true rfl) fun R10 hR10 => ?_
    have k21 := My.Same.new (o := .lst ([V.bl (decide (0 = i)), V.bl (decide (1 = i)), V.bl (decide (2 = i)), V.bl (decide (3 = i)), V.bl (decide (4 = i)), V.bl (decide (5 = i)), V.bl (decide (6 = i)), V.bl (decide (7 = i)), V.bl (decide (8 = i)), V.bl (decide (9 = i)), V.bl (decide (10 = i)), V.bl (decide (11 = i)), V.bl (decide (12 = i)), V.bl (decide (13 = i)), V.bl (decide (14 = i)), V.bl (decide (15 = i)), V.bl (decide (16 = i)), V.bl (decide (17 = i))] ++ [V.bl (decide (18 = i)), V.bl (decide (19 = i))])) (Same.refl H20) hR10
    generalize hH21 : upd H20 R10 (.lst ([V.bl (decide (0 = i)), V.bl (decide (1 = i)), V.bl (decide (2 = i)), V.bl (decide (3 = i)), V.bl (decide (4 = i)), V.bl (decide (5 = i)), V.bl (decide (6 = i)), V.bl (decide (7 = i)), V.bl (decide (8 = i)), V.bl (decide (9 = i)), V.bl (decide (10 = i)), V.bl (decide (11 = i)), V.bl (decide (12 = i)), V.bl (decide (13 = i)), V.bl (decide (14 = i)), V.bl (decide (15 = i)), V.bl (decide (16 = i)), V.bl (decide (17 = i))] ++ [V.bl (decide (18 = i)), V.bl (decide (19 = i))])) = H21 at k21 ⊢
    replace S := S.trans k21
    have gR10 : H21 R10 = some (.lst [V.bl (decide (0 = i)), V.bl (decide (1 = i)), V.bl (decide (2 = i)), V.bl (decide (3 = i)), V.bl (decide (4 = i)), V.bl (decide (5 = i)), V.bl (decide (6 = i)), V.bl (decide (7 = i)), V.bl (decide (8 = i)), V.bl (decide (9 = i)), V.bl (decide (10 = i)), V.bl (decide (11 = i)), V.bl (decide (12 = i)), V.bl (decide (13 = i)), V.bl (decide (14 = i)), V.bl (decide (15 = i)), V.bl (decide (16 = i)), V.bl (decide (17 = i)), V.bl (decide (18 = i)), V.bl (decide (19 = i))]) := by rw [← hH21]; exact upd_same
    clear hH21 k21 hR10 gR9 gP
    walk_at "go"
    refine My.x_isX (hE.same S) (TB.ec i hi) (.own _) (TB.kit i hi 20 (by decide)) ?_
    walk_at "go"
    refine My.x_isX (hE.same S) (TB.ec i hi) (.own _) (TB.kit i hi 21 (by decide)) ?_
    walk_at "go"
    intro P hP
    have k22 := My.Same.new (o := .lst [V.bl (decide (20 = i)), V.bl (decide (21 = i))]) (Same.refl H21) hP
    generalize hH22 : upd H21 P (.lst [V.bl (decide (20 = i)), V.bl (decide (21 = i))]) = H22 at k22 ⊢
    replace S := S.trans k22
    replace gR10 := k22 _ _ gR10
    have gP : H22 P = some (.lst [V.bl (decide (20 = i)), V.bl (decide (21 = i))]) := by rw [← hH22]; exact upd_same
    clear hH22 k22 hP
    walk_at "go"
    refine My.x_cat gR10 gP (Nat.le_of_ble_eq_true rfl) fun R11 hR11 => ?_
    have k23 := My.Same.new (o := .lst ([V.bl (decide (0 = i)), V.bl (decide (1 = i)), V.bl (decide (2 = i)), V.bl (decide (3 = i)), V.bl (decide (4 = i)), V.bl (decide (5 = i)), V.bl (decide (6 = i)), V.bl (decide (7 = i)), V.bl (decide (8 = i)), V.bl (decide (9 = i)), V.bl (decide (10 = i)), V.bl (decide (11 = i)), V.bl (decide (12 = i)), V.bl (decide (13 = i)), V.bl (decide (14 = i)), V.bl (decide (15 = i)), V.bl (decide (16 = i)), V.bl (decide (17 = i)), V.bl (decide (18 = i)), V.bl (decide (19 = i))] ++ [V.bl (decide (20 = i)), V.bl (decide (21 = i))])) (Same.refl H22) hR11
    generalize hH23 : upd H22 R11 (.lst ([V.bl (decide (0 = i)), V.bl (decide (1 = i)), V.bl (decide (2 = i)), V.bl (decide (3 = i)), V.bl (decide (4 = i)), V.bl (decide (5 = i)), V.bl (decide (6 = i)), V.bl (decide (7 = i)), V.bl (decide (8 = i)), V.bl (decide (9 = i)), V.bl (decide (10 = i)), V.bl (decide (11 = i)), V.bl (decide (12 = i)), V.bl (decide (13 = i)), V.bl (decide (14 = i)), V.bl (decide (15 = i)), V.bl (decide (16 = i)), V.bl (decide (17 = i)), V.bl (decide (18 = i)), V.bl (decide (19 = i))] ++ [V.bl (decide (20 = i)), V.bl (decide (21 = i))])) = H23 at k23 ⊢
    replace S := S.trans k23
    have gR11 : H23 R11 = some (.lst [V.bl (decide (0 = i)), V.bl (decide (1 = i)), V.bl (decide (2 = i)), V.bl (decide (3 = i)), V.bl (decide (4 = i)), V.bl (decide (5 = i)), V.bl (decide (6 = i)), V.bl (decide (7 = i)), V.bl (decide (8 = i)), V.bl (decide (9 = i)), V.bl (decide (10 = i)), V.bl (decide (11 = i)), V.bl (decide (12 = i)), V.bl (decide (13 = i)), V.bl (decide (14 = i)), V.bl (decide (15 = i)), V.bl (decide (16 = i)), V.bl (decide (17 = i)), V.bl (decide (18 = i)), V.bl (decide (19 = i)), V.bl (decide (20 = i)), V.bl (decide (21 = i))]) := by rw [← hH23]; exact upd_same
    clear hH23 k23 hR11 gR10 gP
    walk_at "go"
    refine My.x_isX (hE.same S) (TB.ec i hi) (.own _) (TB.kit i hi 22 (by decide)) ?_
    walk_at "go"
    refine My.x_isX (hE.same S) (TB.ec i hi) (.own _) (TB.kit i hi 23 (by decide)) ?_
    walk_at "go"
    intro P hP
    have k24 := My.Same.new (o := .lst [V.bl (decide (22 = i)), V.bl (decide (23 = i))]) (Same.refl H23) hP
    generalize hH24 : upd H23 P (.lst [V.bl (decide (22 = i)), V.bl (decide (23 = i))]) = H24 at k24 ⊢
    replace S := S.trans k24
    replace gR11 := k24 _ _ gR11
    have gP : H24 P = some (.lst [V.bl (decide (22 = i)), V.bl (decide (23 = i))]) := by rw [← hH24]; exact upd_same
    clear hH24 k24 hP
    walk_at "go"
    refine My.x_cat gR11 gP (Nat.le_of_ble_eq_true rfl) fun R12 hR12 => ?_
    have k25 := My.Same.new (o := .lst ([V.bl (decide (0 = i)), V.bl (decide (1 = i)), V.bl (decide (2 = i)), V.bl (decide (3 = i)), V.bl (decide (4 = i)), V.bl (decide (5 = i)), V.bl (decide (6 = i)), V.bl (decide (7 = i)), V.bl (decide (8 = i)), V.bl (decide (9 = i)), V.bl (decide (10 = i)), V.bl (decide (11 = i)), V.bl (decide (12 = i)), V.bl (decide (13 = i)), V.bl (decide (14 = i)), V.bl (decide (15 = i)), V.bl (decide (16 = i)), V.bl (decide (17 = i)), V.bl (decide (18 = i)), V.bl (decide (19 = i)), V.bl (decide (20 = i)), V.bl (decide (21 = i))] ++ [V.bl (decide (22 = i)), V.bl (decide (23 = i))])) (Same.refl H24) hR12
    generalize hH25 : upd H24 R12 (.lst ([V.bl (decide (0 = i)), V.bl (decide (1 = i)), V.bl (decide (2 = i)), V.bl (decide (3 = i)), V.bl (decide (4 = i)), V.bl (decide (5 = i)), V.bl (decide (6 = i)), V.bl (decide (7 = i)), V.bl (decide (8 = i)), V.bl (decide (9 = i)), V.bl (decide (10 = i)), V.bl (decide (11 = i)), V.bl (decide (12 = i)), V.bl (decide (13 = i)), V.bl (decide (14 = i)), V.bl (decide (15 = i)), V.bl (decide (16 = i)), V.bl (decide (17 = i)), V.bl (decide (18 = i)), V.bl (decide (19 = i)), V.bl (decide (20 = i)), V.bl (decide (21 = i))] ++ [V.bl (decide (22 = i)), V.bl (decide (23 = i))])) = H25 at k25 ⊢
    replace S := S.trans k25
    have gR12 : H25 R12 = some (.lst [V.bl (decide (0 = i)), V.bl (decide (1 = i)), V.bl (decide (2 = i)), V.bl (decide (3 = i)), V.bl (decide (4 = i)), V.bl (decide (5 = i)), V.bl (decide (6 = i)), V.bl (decide (7 = i)), V.bl (decide (8 = i)), V.bl (decide (9 = i)), V.bl (decide (10 = i)), V.bl (decide (11 = i)), V.bl (decide (12 = i)), V.bl (decide (13 = i)), V.bl (decide (14 = i)), V.bl (decide (15 = i)), V.bl (decide (16 = i)), V.bl (decide (17 = i)), V.bl (decide (18 = i)), V.bl (decide (19 = i)), V.bl (decide (20 = i)), V.bl (decide (21 = i)), V.bl (decide (22 = i)), V.bl (decide (23 = i))]) := by rw [← hH25]; exact upd_same
    clear hH25 k25 hR12 gR11 gP
    walk_at "go"
    refine My.x_isX (hE.same S) (TB.ec i hi) (.own _) (TB.kit i hi 24 (by decide)) ?_
    walk_at "go"
    refine My.x_isX (hE.same S) (TB.ec i hi) (.own _) (TB.kit i hi 25 (by decide)) ?_
    walk_at "go"
    intro P hP
    have k26 := My.Same.new (o := .lst [V.bl (decide (24 = i)), V.bl (decide (25 = i))]) (Same.refl H25) hP
    generalize hH26 : upd H25 P (.lst [V.bl (decide (24 = i)), V.bl (decide (25 = i))]) = H26 at k26 ⊢
    replace S := S.trans k26
    replace gR12 := k26 _ _ gR12
    have gP : H26 P = some (.lst [V.bl (decide (24 = i)), V.bl (decide (25 = i))]) := by rw [← hH26]; exact upd_same
    clear hH26 k26 hP
    walk_at "go"
    refine My.x_cat gR12 gP (Nat.le_of_ble_eq_true rfl) fun R13 hR13 => ?_
    have k27 := My.Same.new (o := .lst ([V.bl (decide (0 = i)), V.bl (decide (1 = i)), V.bl (decide (2 = i)), V.bl (decide (3 = i)), V.bl (decide (4 = i)), V.bl (decide (5 = i)), V.bl (decide (6 = i)), V.bl (decide (7 = i)), V.bl (decide (8 = i)), V.bl (decide (9 = i)), V.bl (decide (10 = i)), V.bl (decide (11 = i)), V.bl (decide (12 = i)), V.bl (decide (13 = i)), V.bl (decide (14 = i)), V.bl (decide (15 = i)), V.bl (decide (16 = i)), V.bl (decide (17 = i)), V.bl (decide (18 = i)), V.bl (decide (19 = i)), V.bl (decide (20 = i)), V.bl (decide (21 = i)), V.bl (decide (22 = i)), V.bl (decide (23 = i))] ++ [V.bl (decide (24 = i)), V.bl (decide (25 = i))])) (Same.refl H26) hR13
    generalize hH27 : upd H26 R13 (.lst ([V.bl (decide (0 = i)), V.bl (decide (1 = i)), V.bl (decide (2 = i)), V.bl (decide (3 = i)), V.bl (decide (4 = i)), V.bl (decide (5 = i)), V.bl (decide (6 = i)), V.bl (decide (7 = i)), V.bl (decide (8 = i)), V.bl (decide (9 = i)), V.bl (decide (10 = i)), V.bl (decide (11 = i)), V.bl (decide (12 = i)), V.bl (decide (13 = i)), V.bl (decide (14 = i)), V.bl (decide (15 = i)), V.bl (decide (16 = i)), V.bl (decide (17 = i)), V.bl (decide (18 = i)), V.bl (decide (19 = i)), V.bl (decide (20 = i)), V.bl (decide (21 = i)), V.bl (decide (22 = i)), V.bl (decide (23 = i))] ++ [V.bl (decide (24 = i)), V.bl (decide (25 = i))])) = H27 at k27 ⊢
    replace S := S.trans k27
    have gR13 : H27 R13 = some (.lst [V.bl (decide (0 = i)), V.bl (decide (1 = i)), V.bl (decide (2 = i)), V.bl (decide (3 = i)), V.bl (decide (4 = i)), V.bl (decide (5 = i)), V.bl (decide (6 = i)), V.bl (decide (7 = i)), V.bl (decide (8 = i)), V.bl (decide (9 = i)), V.bl (decide (10 = i)), V.bl (decide (11 = i)), V.bl (decide (12 = i)), V.bl (decide (13 = i)), V.bl (decide (14 = i)), V.bl (decide (15 = i)), V.bl (decide (16 = i)), V.bl (decide (17 = i)), V.bl (decide (18 = i)), V.bl (decide (19 = i)), V.bl (decide (20 = i)), V.bl (decide (21 = i)), V.bl (decide (22 = i)), V.bl (decide (23 = i)), V.bl (decide (24 = i)), V.bl (decide (25 = i))]) := by rw [← hH27]; exact upd_same
    clear hH27 k27 hR13 gR12 gP
    walk_at "go"
    refine My.x_isX (hE.same S) (TB.ec i hi) (.own _) (TB.kit i hi 26 (by decide)) ?_
    walk_at "go"
    refine My.x_isX (hE.same S) (TB.ec i hi) (.own _) (TB.kit i hi 27 (by decide)) ?_
    walk_at "go"
    intro P hP
    have k28 := My.Same.new (o := .lst [V.bl (decide (26 = i)), V.bl (decide (27 = i))]) (Same.refl H27) hP
    generalize hH28 : upd H27 P (.lst [V.bl (decide (26 = i)), V.bl (decide (27 = i))]) = H28 at k28 ⊢
    replace S := S.trans k28
    replace gR13 := k28 _ _ gR13
    have gP : H28 P = some (.lst [V.bl (decide (26 = i)), V.bl (decide (27 = i))]) := by rw [← hH28]; exact upd_same
    clear hH28 k28 hP
    walk_at "go"
    refine My.x_cat gR13 gP (Nat.le_of_ble_eq_true rfl) fun R14 hR14 => ?_
    have k29 := My.Same.new (o := .lst ([V.bl (decide (0 = i)), V.bl (decide (1 = i)), V.bl (decide (2 = i)), V.bl (decide (3 = i)), V.bl (decide (4 = i)), V.bl (decide (5 = i)), V.bl (decide (6 = i)), V.bl (decide (7 = i)), V.bl (decide (8 = i)), V.bl (decide (9 = i)), V.bl (decide (10 = i)), V.bl (decide (11 = i)), V.bl (decide (12 = i)), V.bl (decide (13 = i)), V.bl (decide (14 = i)), V.bl (decide (15 = i)), V.bl (decide (16 = i)), V.bl (decide (17 = i)), V.bl (decide (18 = i)), V.bl (decide (19 = i)), V.bl (decide (20 = i)), V.bl (decide (21 = i)), V.bl (decide (22 = i)), V.bl (decide (23 = i)), V.bl (decide (24 = i)), V.bl (decide (25 = i))] ++ [V.bl (decide (26 = i)), V.bl (decide (27 = i))])) (Same.refl H28) hR14
    generalize hH29 : upd H28 R14 (.lst ([V.bl (decide (0 = i)), V.bl (decide (1 = i)), V.bl (decide (2 = i)), V.bl (decide (3 = i)), V.bl (decide (4 = i)), V.bl (decide (5 = i)), V.bl (decide (6 = i)), V.bl (decide (7 = i)), V.bl (decide (8 = i)), V.bl (decide (9 = i)), V.bl (decide (10 = i)), V.bl (decide (11 = i)), V.bl (decide (12 = i)), V.bl (decide (13 = i)), V.bl (decide (14 = i)), V.bl (decide (15 = i)), V.bl (decide (16 = i)), V.bl (decide (17 = i)), V.bl (decide (18 = i)), V.bl (decide (19 = i)), V.bl (decide (20 = i)), V.bl (decide (21 = i)), V.bl (decide (22 = i)), V.bl (decide (23 = i)), V.bl (decide (24 = i)), V.bl (decide (25 = i))] ++ [V.bl (decide (26 = i)), V.bl (decide (27 = i))])) = H29 at k29 ⊢
    replace S := S.trans k29
    have gR14 : H29 R14 = some (.lst [V.bl (decide (0 = i)), V.bl (decide (1 = i)), V.bl (decide (2 = i)), V.bl (decide (3 = i)), V.bl (decide (4 = i)), V.bl (decide (5 = i)), V.bl (decide (6 = i)), V.bl (decide (7 = i)), V.bl (decide (8 = i)), V.bl (decide (9 = i)), V.bl (decide (10 = i)), V.bl (decide (11 = i)), V.bl (decide (12 = i)), V.bl (decide (13 = i)), V.bl (decide (14 = i)), V.bl (decide (15 = i)), V.bl (decide (16 = i)), V.bl (decide (17 = i)), V.bl (decide (18 = i)), V.bl (decide (19 = i)), V.bl (decide (20 = i)), V.bl (decide (21 = i)), V.bl (decide (22 = i)), V.bl (decide (23 = i)), V.bl (decide (24 = i)), V.bl (decide (25 = i)), V.bl (decide (26 = i)), V.bl (decide (27 = i))]) := by rw [← hH29]; exact upd_same
    clear hH29 k29 hR14 gR13 gP
    walk_at "go"
    refine My.x_isX (hE.same S) (TB.ec i hi) (.own _) (TB.kit i hi 28 (by decide)) ?_
    walk_at "go"
    refine My.x_isX (hE.same S) (TB.ec i hi) (.own _) (TB.kit i hi 29 (by decide)) ?_
    walk_at "go"
    intro P hP
    have k30 := My.Same.new (o := .lst [V.bl (decide (28 = i)), V.bl (decide (29 = i))]) (Same.refl H29) hP
    generalize hH30 : upd H29 P (.lst [V.bl (decide (28 = i)), V.bl (decide (29 = i))]) = H30 at k30 ⊢
    replace S := S.trans k30
    replace gR14 := k30 _ _ gR14
    have gP : H30 P = some (.lst [V.bl (decide (28 = i)), V.bl (decide (29 = i))]) := by rw [← hH30]; exact upd_same
    clear hH30 k30 hP
    walk_at "go"
    refine My.x_cat gR14 gP (Nat.le_of_ble_eq_true rfl) fun R15 hR15 => ?_
    have k31 := My.Same.new (o := .lst ([V.bl (decide (0 = i)), V.bl (decide (1 = i)), V.bl (decide (2 = i)), V.bl (decide (3 = i)), V.bl (decide (4 = i)), V.bl (decide (5 = i)), V.bl (decide (6 = i)), V.bl (decide (7 = i)), V.bl (decide (8 = i)), V.bl (decide (9 = i)), V.bl (decide (10 = i)), V.bl (decide (11 = i)), V.bl (decide (12 = i)), V.bl (decide (13 = i)), V.bl (decide (14 = i)), V.bl (decide (15 = i)), V.bl (decide (16 = i)), V.bl (decide (17 = i)), V.bl (decide (18 = i)), V.bl (decide (19 = i)), V.bl (decide (20 = i)), V.bl (decide (21 = i)), V.bl (decide (22 = i)), V.bl (decide (23 = i)), V.bl (decide (24 = i)), V.bl (decide (25 = i)), V.bl (decide (26 = i)), V.bl (decide (27 = i))] ++ [V.bl (decide (28 = i)), V.bl (decide (29 = i))])) (Same.refl H30) hR15
    generalize hH31 : upd H30 R15 (.lst ([V.bl (decide (0 = i)), V.bl (decide (1 = i)), V.bl (decide (2 = i)), V.bl (decide (3 = i)), V.bl (decide (4 = i)), V.bl (decide (5 = i)), V.bl (decide (6 = i)), V.bl (decide (7 = i)), V.bl (decide (8 = i)), V.bl (decide (9 = i)), V.bl (decide (10 = i)), V.bl (decide (11 = i)), V.bl (decide (12 = i)), V.bl (decide (13 = i)), V.bl (decide (14 = i)), V.bl (decide (15 = i)), V.bl (decide (16 = i)), V.bl (decide (17 = i)), V.bl (decide (18 = i)), V.bl (decide (19 = i)), V.bl (decide (20 = i)), V.bl (decide (21 = i)), V.bl (decide (22 = i)), V.bl (decide (23 = i)), V.bl (decide (24 = i)), V.bl (decide (25 = i)), V.bl (decide (26 = i)), V.bl (decide (27 = i))] ++ [V.bl (decide (28 = i)), V.bl (decide (29 = i))])) = H31 at k31 ⊢
    replace S := S.trans k31
    have gR15 : H31 R15 = some (.lst [V.bl (decide (0 = i)), V.bl (decide (1 = i)), V.bl (decide (2 = i)), V.bl (decide (3 = i)), V.bl (decide (4 = i)), V.bl (decide (5 = i)), V.bl (decide (6 = i)), V.bl (decide (7 = i)), V.bl (decide (8 = i)), V.bl (decide (9 = i)), V.bl (decide (10 = i)), V.bl (decide (11 = i)), V.bl (decide (12 = i)), V.bl (decide (13 = i)), V.bl (decide (14 = i)), V.bl (decide (15 = i)), V.bl (decide (16 = i)), V.bl (decide (17 = i)), V.bl (decide (18 = i)), V.bl (decide (19 = i)), V.bl (decide (20 = i)), V.bl (decide (21 = i)), V.bl (decide (22 = i)), V.bl (decide (23 = i)), V.bl (decide (24 = i)), V.bl (decide (25 = i)), V.bl (decide (26 = i)), V.bl (decide (27 = i)), V.bl (decide (28 = i)), V.bl (decide (29 = i))]) := by rw [← hH31]; exact upd_same
    clear hH31 k31 hR15 gR14 gP
    walk_at "go"
    refine My.x_isX (hE.same S) (TB.ec i hi) (.own _) (TB.kit i hi 30 (by decide)) ?_
    walk_at "go"
    refine My.x_isX (hE.same S) (TB.ec i hi) (.own _) (TB.kit i hi 31 (by decide)) ?_
    walk_at "go"
    intro P hP
    have k32 := My.Same.new (o := .lst [V.bl (decide (30 = i)), V.bl (decide (31 = i))]) (Same.refl H31) hP
    generalize hH32 : upd H31 P (.lst [V.bl (decide (30 = i)), V.bl (decide (31 = i))]) = H32 at k32 ⊢
    replace S := S.trans k32
    replace gR15 := k32 _ _ gR15
    have gP : H32 P = some (.lst [V.bl (decide (30 = i)), V.bl (decide (31 = i))]) := by rw [← hH32]; exact upd_same
    clear hH32 k32 hP
    walk_at "go"
    refine My.x_cat gR15 gP (Nat.le_of_ble_eq_true rfl) fun R16 hR16 => ?_
    have k33 := My.Same.new (o := .lst ([V.bl (decide (0 = i)), V.bl (decide (1 = i)), V.bl (decide (2 = i)), V.bl (decide (3 = i)), V.bl (decide (4 = i)), V.bl (decide (5 = i)), V.bl (decide (6 = i)), V.bl (decide (7 = i)), V.bl (decide (8 = i)), V.bl (decide (9 = i)), V.bl (decide (10 = i)), V.bl (decide (11 = i)), V.bl (decide (12 = i)), V.bl (decide (13 = i)), V.bl (decide (14 = i)), V.bl (decide (15 = i)), V.bl (decide (16 = i)), V.bl (decide (17 = i)), V.bl (decide (18 = i)), V.bl (decide (19 = i)), V.bl (decide (20 = i)), V.bl (decide (21 = i)), V.bl (decide (22 = i)), V.bl (decide (23 = i)), V.bl (decide (24 = i)), V.bl (decide (25 = i)), V.bl (decide (26 = i)), V.bl (decide (27 = i)), V.bl (decide (28 = i)), V.bl (decide (29 = i))] ++ [V.bl (decide (30 = i)), V.bl (decide (31 = i))])) (Same.refl H32) hR16
    generalize hH33 : upd H32 R16 (.lst ([V.bl (decide (0 = i)), V.bl (decide (1 = i)), V.bl (decide (2 = i)), V.bl (decide (3 = i)), V.bl (decide (4 = i)), V.bl (decide (5 = i)), V.bl (decide (6 = i)), V.bl (decide (7 = i)), V.bl (decide (8 = i)), V.bl (decide (9 = i)), V.bl (decide (10 = i)), V.bl (decide (11 = i)), V.bl (decide (12 = i)), V.bl (decide (13 = i)), V.bl (decide (14 = i)), V.bl (decide (15 = i)), V.bl (decide (16 = i)), V.bl (decide (17 = i)), V.bl (decide (18 = i)), V.bl (decide (19 = i)), V.bl (decide (20 = i)), V.bl (decide (21 = i)), V.bl (decide (22 = i)), V.bl (decide (23 = i)), V.bl (decide (24 = i)), V.bl (decide (25 = i)), V.bl (decide (26 = i)), V.bl (decide (27 = i)), V.bl (decide (28 = i)), V.bl (decide (29 = i))] ++ [V.bl (decide (30 = i)), V.bl (decide (31 = i))])) = H33 at k33 ⊢
    replace S := S.trans k33
    have gR16 : H33 R16 = some (.lst [V.bl (decide (0 = i)), V.bl (decide (1 = i)), V.bl (decide (2 = i)), V.bl (decide (3 = i)), V.bl (decide (4 = i)), V.bl (decide (5 = i)), V.bl (decide (6 = i)), V.bl (decide (7 = i)), V.bl (decide (8 = i)), V.bl (decide (9 = i)), V.bl (decide (10 = i)), V.bl (decide (11 = i)), V.bl (decide (12 = i)), V.bl (decide (13 = i)), V.bl (decide (14 = i)), V.bl (decide (15 = i)), V.bl (decide (16 = i)), V.bl (decide (17 = i)), V.bl (decide (18 = i)), V.bl (decide (19 = i)), V.bl (decide (20 = i)), V.bl (decide (21 = i)), V.bl (decide (22 = i)), V.bl (decide (23 = i)), V.bl (decide (24 = i)), V.bl (decide (25 = i)), V.bl (decide (26 = i)), V.bl (decide (27 = i)), V.bl (decide (28 = i)), V.bl (decide (29 = i)), V.bl (decide (30 = i)), V.bl (decide (31 = i))]) := by rw [← hH33]; exact upd_same
    clear hH33 k33 hR16 gR15 gP
    walk_at "go"
    refine My.x_isX (hE.same S) (TB.ec i hi) (.own _) (TB.kit i hi 32 (by decide)) ?_
    walk_at "go"
    refine My.x_isX (hE.same S) (TB.ec i hi) (.own _) (TB.kit i hi 33 (by decide)) ?_
    walk_at "go"
    intro P hP
    have k34 := My.Same.new (o := .lst [V.bl (decide (32 = i)), V.bl (decide (33 = i))]) (Same.refl H33) hP
    generalize hH34 : upd H33 P (.lst [V.bl (decide (32 = i)), V.bl (decide (33 = i))]) = H34 at k34 ⊢
    replace S := S.trans k34
    replace gR16 := k34 _ _ gR16
    have gP : H34 P = some (.lst [V.bl (decide (32 = i)), V.bl (decide (33 = i))]) := by rw [← hH34]; exact upd_same
    clear hH34 k34 hP
    walk_at "go"
    refine My.x_cat gR16 gP (Nat.le_of_ble_eq_true rfl) fun R17 hR17 => ?_
    have k35 := My.Same.new (o := .lst ([V.bl (decide (0 = i)), V.bl (decide (1 = i)), V.bl (decide (2 = i)), V.bl (decide (3 = i)), V.bl (decide (4 = i)), V.bl (decide (5 = i)), V.bl (decide (6 = i)), V.bl (decide (7 = i)), V.bl (decide (8 = i)), V.bl (decide (9 = i)), V.bl (decide (10 = i)), V.bl (decide (11 = i)), V.bl (decide (12 = i)), V.bl (decide (13 = i)), V.bl (decide (14 = i)), V.bl (decide (15 = i)), V.bl (decide (16 = i)), V.bl (decide (17 = i)), V.bl (decide (18 = i)), V.bl (decide (19 = i)), V.bl (decide (20 = i)), V.bl (decide (21 = i)), V.bl (decide (22 = i)), V.bl (decide (23 = i)), V.bl (decide (24 = i)), V.bl (decide (25 = i)), V.bl (decide (26 = i)), V.bl (decide (27 = i)), V.bl (decide (28 = i)), V.bl (decide (29 = i)), V.bl (decide (30 = i)), V.bl (decide (31 = i))] ++ [V.bl (decide (32 = i)), V.bl (decide (33 = i))])) (Same.refl H34) hR17
    generalize hH35 : upd H34 R17 (.lst ([V.bl (decide (0 = i)), V.bl (decide (1 = i)), V.bl (decide (2 = i)), V.bl (decide (3 = i)), V.bl (decide (4 = i)), V.bl (decide (5 = i)), V.bl (decide (6 = i)), V.bl (decide (7 = i)), V.bl (decide (8 = i)), V.bl (decide (9 = i)), V.bl (decide (10 = i)), V.bl (decide (11 = i)), V.bl (decide (12 = i)), V.bl (decide (13 = i)), V.bl (decide (14 = i)), V.bl (decide (15 = i)), V.bl (decide (16 = i)), V.bl (decide (17 = i)), V.bl (decide (18 = i)), V.bl (decide (19 = i)), V.bl (decide (20 = i)), V.bl (decide (21 = i)), V.bl (decide (22 = i)), V.bl (decide (23 = i)), V.bl (decide (24 = i)), V.bl (decide (25 = i)), V.bl (decide (26 = i)), V.bl (decide (27 = i)), V.bl (decide (28 = i)), V.bl (decide (29 = i)), V.bl (decide (30 = i)), V.bl (decide (31 = i))] ++ [V.bl (decide (32 = i)), V.bl (decide (33 = i))])) = H35 at k35 ⊢
    replace S := S.trans k35
    have gR17 : H35 R17 = some (.lst [V.bl (decide (0 = i)), V.bl (decide (1 = i)), V.bl (decide (2 = i)), V.bl (decide (3 = i)), V.bl (decide (4 = i)), V.bl (decide (5 = i)), V.bl (decide (6 = i)), V.bl (decide (7 = i)), V.bl (decide (8 = i)), V.bl (decide (9 = i)), V.bl (decide (10 = i)), V.bl (decide (11 = i)), V.bl (decide (12 = i)), V.bl (decide (13 = i)), V.bl (decide (14 = i)), V.bl (decide (15 = i)), V.bl (decide (16 = i)), V.bl (decide (17 = i)), V.bl (decide (18 = i)), V.bl (decide (19 = i)), V.bl (decide (20 = i)), V.bl (decide (21 = i)), V.bl (decide (22 = i)), V.bl (decide (23 = i)), V.bl (decide (24 = i)), V.bl (decide (25 = i)), V.bl (decide (26 = i)), V.bl (decide (27 = i)), V.bl (decide (28 = i)), V.bl (decide (29 = i)), V.bl (decide (30 = i)), V.bl (decide (31 = i)), V.bl (decide (32 = i)), V.bl (decide (33 = i))]) := by rw [← hH35]; exact upd_same
    clear hH35 k35 hR17 gR16 gP
    walk_at "go"
    refine My.x_isX (hE.same S) (TB.ec i hi) (.own _) (TB.kit i hi 34 (by decide)) ?_
    walk_at "go"
    refine My.x_isX (hE.same S) (TB.ec i hi) (.own _) (TB.kit i hi 35 (by decide)) ?_
    walk_at "go"
    intro P hP
    have k36 := My.Same.new (o := .lst [V.bl (decide (34 = i)), V.bl (decide (35 = i))]) (Same.refl H35) hP
    generalize hH36 : upd H35 P (.lst [V.bl (decide (34 = i)), V.bl (decide (35 = i))]) = H36 at k36 ⊢
    replace S := S.trans k36
    replace gR17 := k36 _ _ gR17
    have gP : H36 P = some (.lst [V.bl (decide (34 = i)), V.bl (decide (35 = i))]) := by rw [← hH36]; exact upd_same
    clear hH36 k36 hP
    walk_at "go"
    refine My.x_cat gR17 gP (Nat.le_of_ble_eq_true rfl) fun R18 hR18 => ?_
    have k37 := My.Same.new (o := .lst ([V.bl (decide (0 = i)), V.bl (decide (1 = i)), V.bl (decide (2 = i)), V.bl (decide (3 = i)), V.bl (decide (4 = i)), V.bl (decide (5 = i)), V.bl (decide (6 = i)), V.bl (decide (7 = i)), V.bl (decide (8 = i)), V.bl (decide (9 = i)), V.bl (decide (10 = i)), V.bl (decide (11 = i)), V.bl (decide (12 = i)), V.bl (decide (13 = i)), V.bl (decide (14 = i)), V.bl (decide (15 = i)), V.bl (decide (16 = i)), V.bl (decide (17 = i)), V.bl (decide (18 = i)), V.bl (decide (19 = i)), V.bl (decide (20 = i)), V.bl (decide (21 = i)), V.bl (decide (22 = i)), V.bl (decide (23 = i)), V.bl (decide (24 = i)), V.bl (decide (25 = i)), V.bl (decide (26 = i)), V.bl (decide (27 = i)), V.bl (decide (28 = i)), V.bl (decide (29 = i)), V.bl (decide (30 = i)), V.bl (decide (31 = i)), V.bl (decide (32 = i)), V.bl (decide (33 = i))] ++ [V.bl (decide (34 = i)), V.bl (decide (35 = i))])) (Same.refl H36) hR18
    generalize hH37 : upd H36 R18 (.lst ([V.bl (decide (0 = i)), V.bl (decide (1 = i)), V.bl (decide (2 = i)), V.bl (decide (3 = i)), V.bl (decide (4 = i)), V.bl (decide (5 = i)), V.bl (decide (6 = i)), V.bl (decide (7 = i)), V.bl (decide (8 = i)), V.bl (decide (9 = i)), V.bl (decide (10 = i)), V.bl (decide (11 = i)), V.bl (decide (12 = i)), V.bl (decide (13 = i)), V.bl (decide (14 = i)), V.bl (decide (15 = i)), V.bl (decide (16 = i)), V.bl (decide (17 = i)), V.bl (decide (18 = i)), V.bl (decide (19 = i)), V.bl (decide (20 = i)), V.bl (decide (21 = i)), V.bl (decide (22 = i)), V.bl (decide (23 = i)), V.bl (decide (24 = i)), V.bl (decide (25 = i)), V.bl (decide (26 = i)), V.bl (decide (27 = i)), V.bl (decide (28 = i)), V.bl (decide (29 = i)), V.bl (decide (30 = i)), V.bl (decide (31 = i)), V.bl (decide (32 = i)), V.bl (decide (33 = i))] ++ [V.bl (decide (34 = i)), V.bl (decide (35 = i))])) = H37 at k37 ⊢
    replace S := S.trans k37
    have gR18 : H37 R18 = some (.lst [V.bl (decide (0 = i)), V.bl (decide (1 = i)), V.bl (decide (2 = i)), V.bl (decide (3 = i)), V.bl (decide (4 = i)), V.bl (decide (5 = i)), V.bl (decide (6 = i)), V.bl (decide (7 = i)), V.bl (decide (8 = i)), V.bl (decide (9 = i)), V.bl (decide (10 = i)), V.bl (decide (11 = i)), V.bl (decide (12 = i)), V.bl (decide (13 = i)), V.bl (decide (14 = i)), V.bl (decide (15 = i)), V.bl (decide (16 = i)), V.bl (decide (17 = i)), V.bl (decide (18 = i)), V.bl (decide (19 = i)), V.bl (decide (20 = i)), V.bl (decide (21 = i)), V.bl (decide (22 = i)), V.bl (decide (23 = i)), V.bl (decide (24 = i)), V.bl (decide (25 = i)), V.bl (decide (26 = i)), V.bl (decide (27 = i)), V.bl (decide (28 = i)), V.bl (decide (29 = i)), V.bl (decide (30 = i)), V.bl (decide (31 = i)), V.bl (decide (32 = i)), V.bl (decide (33 = i)), V.bl (decide (34 = i)), V.bl (decide (35 = i))]) := by rw [← hH37]; exact upd_same
    clear hH37 k37 hR18 gR17 gP
    walk_at "go"
    exact q R18 _ S gR18
end
end K36

end

section
set_option maxHeartbeats 4000000
local macro_rules | `(tactic| walk_at "ne") => `(tactic| first | assumption | (apply Ne.symm; assumption) | exact L2.ne_of_none (by assumption) (by assumption) | exact (L2.ne_of_none (by assumption) (by assumption)).symm)
local macro_rules | `(tactic| walk_at "hp") => `(tactic| first | assumption | exact L2.upd_same | (rw [L2.upd_ne (by walk_at "ne")]; walk_at "hp"))
local macro_rules | `(tactic| walk_at "sq") => `(tactic| first | assumption | exact L2.SqL.of (by walk_at "hp") | exact My.sq_new (by walk_at "sq") (by assumption))
local macro_rules | `(tactic| walk_at "sd") => `(tactic| first | decide | omega | (unfold L2.CDivN; omega) | (unfold L2.CMul; omega) | (unfold L2.CPow; omega))
local macro_rules | `(tactic| walk_at "sx1") => `(tactic| first | with_reducible refine My.x_seq ?_ | with_reducible refine My.x_asg ?_ | with_reducible refine My.x_ret ?_ | with_reducible refine My.x_next ?_ | with_reducible refine My.x_op ?_ | with_reducible refine My.x_c ?_ | with_reducible refine My.x_ifs ?_ | with_reducible refine My.x_test ?_ | with_reducible refine My.x_exbl ?_ | with_reducible refine My.x_cons ?_ | with_reducible refine My.x_nil ?_ | with_reducible refine My.x_cb ?_ | with_reducible refine My.x_drop ?_ | with_reducible refine My.x_par ?_ | with_reducible refine My.x_exp2 ?_ | with_reducible refine My.x_aug ?_ | with_reducible refine My.x_if ?_ | with_reducible refine My.x_tB ?_ | with_reducible refine My.x_and ?_ | with_reducible refine My.x_or ?_ | with_reducible refine My.x_not ?_ | with_reducible refine My.x_retn ?_ | with_reducible refine My.x_cont ?_ | with_reducible refine My.x_brk ?_ | with_reducible refine My.x_un ?_ | with_reducible refine My.x_tfor ?_ | with_reducible refine My.x_ilist ?_ | with_reducible refine My.x_rng1 ?_ | with_reducible refine My.x_rng2 ?_ | with_reducible refine My.x_r1 ?_ | with_reducible refine My.x_call ?_ | with_reducible refine My.x_sl ?_ | with_reducible refine My.x_part ?_ | with_reducible refine My.x_nopart ?_ | with_reducible refine My.x_ii0 ?_ | with_reducible refine My.x_yes ?_ | with_reducible refine My.x_andv ?_ | with_reducible refine My.x_orv ?_ | with_reducible refine My.x_notv ?_ | with_reducible refine My.x_iT ?_ | with_reducible refine My.x_iF ?_ | with_reducible refine My.x_chain ?_ | with_reducible refine My.x_exI ?_ | with_reducible refine My.x_wipe ?_ | with_reducible refine My.x_bm ?_ | with_reducible refine My.x_bm0 ?_ | with_reducible refine My.x_gsub ?_ | with_reducible refine My.x_int1 ?_ | with_reducible refine My.x_two ?_ | with_reducible refine My.x_lst ?_ | with_reducible refine My.x_tup ?_ | with_reducible refine My.x_revL ?_ | with_reducible refine My.x_dput ?_ | with_reducible refine My.x_dget ?_ | with_reducible refine My.x_dnew ?_ | with_reducible refine My.x_dc ?_ | with_reducible refine My.x_lc ?_ | with_reducible refine My.x_ienum ?_ | with_reducible refine My.x_gcons ?_ | with_reducible refine My.x_gnil ?_ | with_reducible refine My.x_v0 ?_ | with_reducible refine My.x_v1 ?_ | with_reducible refine My.x_v2 ?_ | with_reducible refine My.x_v3 ?_ | with_reducible refine My.x_v4 ?_ | with_reducible refine My.x_v5 ?_ | with_reducible refine My.x_v6 ?_ | with_reducible refine My.x_v7 ?_ | with_reducible refine My.x_v8 ?_ | with_reducible refine My.x_v9 ?_ | with_reducible refine My.x_v10 ?_ | with_reducible refine My.x_v11 ?_ | with_reducible refine My.x_v12 ?_ | with_reducible refine My.x_v13 ?_ | with_reducible refine My.x_v14 ?_ | with_reducible refine My.x_v15 ?_ | with_reducible refine My.x_v16 ?_ | with_reducible refine My.x_v17 ?_ | with_reducible refine My.x_v18 ?_ | with_reducible refine My.x_v19 ?_ | with_reducible refine My.x_v20 ?_ | with_reducible refine My.x_v21 ?_ | with_reducible refine My.x_v22 ?_ | with_reducible refine My.x_v23 ?_ | with_reducible refine My.x_v24 ?_ | with_reducible refine My.x_v25 ?_ | with_reducible refine My.x_g0 ?_ | with_reducible refine My.x_g1 ?_ | with_reducible refine My.x_g2 ?_ | with_reducible refine My.x_g3 ?_ | with_reducible refine My.x_g4 ?_ | with_reducible refine My.x_g5 ?_ | with_reducible refine My.x_g6 ?_ | with_reducible refine My.x_g7 ?_ | with_reducible refine My.x_g8 ?_ | with_reducible refine My.x_g9 ?_ | with_reducible refine My.x_g10 ?_ | with_reducible refine My.x_g11 ?_ | with_reducible refine My.x_g12 ?_ | with_reducible refine My.x_g13 ?_ | with_reducible refine My.x_g14 ?_ | with_reducible refine My.x_g15 ?_ | with_reducible refine My.x_g16 ?_ | with_reducible refine My.x_g17 ?_ | with_reducible refine My.x_g18 ?_ | with_reducible refine My.x_g19 ?_ | with_reducible refine My.x_g20 ?_ | with_reducible refine My.x_g21 ?_ | with_reducible refine My.x_g22 ?_ | with_reducible refine My.x_g23 ?_ | with_reducible refine My.x_g24 ?_ | with_reducible refine My.x_g25 ?_)
local macro_rules | `(tactic| walk_at "sx") => `(tactic| repeat (walk_at "sx1"))
local macro_rules | `(tactic| walk_at "ln") => `(tactic| first | assumption | exact Nat.le_of_ble_eq_true rfl | (simp only [List.length_append, List.length_map, List.length_cons, List.length_nil]; simp only [PySem.sizeLine]; omega))
local macro_rules | `(tactic| walk_at "st") => `(tactic| first | assumption | exact L2.SqT.of (by walk_at "hp"))
local macro_rules | `(tactic| walk_at "go1") => `(tactic| first | walk_at "sx1" | ((with_reducible refine' My.x_ixL ?x0 ?x1 ?x2); (case x0 => walk_at "sq"); (case x1 => exact rfl)) | ((with_reducible refine' My.x_ixT ?x0 ?x1 ?x2); (case x0 => walk_at "st"); (case x1 => exact rfl)) | ((with_reducible refine' My.x_i ?x0 ?x1); (case x0 => walk_at "sd")) | ((with_reducible refine' My.x_setL ?x0 ?x1 ?x2); (case x0 => walk_at "hp"); (case x1 => exact rfl)) | ((with_reducible refine' My.x_len ?x0 ?x1); (case x0 => walk_at "sq")) | ((with_reducible refine' My.x_lenT ?x0 ?x1); (case x0 => walk_at "st")) | ((with_reducible refine' My.x_lenD ?x0 ?x1); (case x0 => walk_at "hp")) | ((with_reducible refine' My.x_append ?x0 ?x1 ?x2); (case x0 => walk_at "hp"); (case x1 => walk_at "ln")) | ((with_reducible refine' My.x_tyL ?x0 ?x1); (case x0 => walk_at "hp")) | ((with_reducible refine' My.x_ilistE ?x0 ?x1); (case x0 => walk_at "sq")) | ((with_reducible refine' My.x_ienumE ?x0 ?x1); (case x0 => walk_at "sq")) | ((with_reducible refine' My.x_sortI ?x0 ?x1); (case x0 => walk_at "sq")) | ((with_reducible refine' My.x_slL ?x0 ?x1); (case x0 => walk_at "sq")) | ((with_reducible refine' My.x_revL2 ?x0 ?x1); (case x0 => walk_at "sq")) | ((with_reducible refine' My.x_eq ?x0 ?x1); (case x0 => exact rfl)) | ((with_reducible refine' My.x_ne ?x0 ?x1); (case x0 => exact rfl)) | ((with_reducible refine' My.x_dputI ?x0 ?x1 ?x2); (case x0 => walk_at "hp"); (case x1 => walk_at "ln")) | ((with_reducible refine' My.x_dputS ?x0 ?x1 ?x2); (case x0 => walk_at "hp"); (case x1 => walk_at "ln")) | ((with_reducible refine' My.x_seqof ?x0 ?x1); (case x0 => walk_at "sq")) | ((with_reducible refine' My.x_gtup ?x0 ?x1 ?x2); (case x0 => walk_at "st"); (case x1 => exact rfl)) | ((with_reducible refine' My.x_mem1 ?x0 ?x1); (case x0 => walk_at "ln")))
local macro_rules | `(tactic| walk_at "go") => `(tactic| repeat (walk_at "go1"))
local macro_rules | `(tactic| walk_at "sx1") => `(tactic| first | with_reducible refine My.x_gx ?_ | with_reducible refine My.x_gxK ?_ | with_reducible refine My.x_gi ?_ | with_reducible refine My.x_gst ?_ | with_reducible refine My.x_xg ?_ | with_reducible refine My.x_nF ?_ | with_reducible refine My.x_nT ?_)
namespace K36
open PySem PySem.Spec PyProof.Rows L2
abbrev GcX := @My.Gc
def Xs (H : Hp) (L : List (Addr × Addr × List (Str × V))) : Prop := ∀ t ∈ L, My.ExAt H t.1 t.2.1 t.2.2
theorem Xs.same {H H' : Hp} {L : List (Addr × Addr × List (Str × V))} (h : Xs H L) (s : Same H H') : Xs H' L := fun t ht => (h t ht).same s
theorem Xs.snoc {H : Hp} {L : List (Addr × Addr × List (Str × V))} {a C : Addr} {fs : List (Str × V)} (h : Xs H L) (x : My.ExAt H a C fs) : Xs H ((a, C, fs) :: L) := fun t ht => (List.mem_cons.mp ht).elim (fun z => by rw [z]; exact x) (h t)
theorem Xs.rev {H : Hp} {L M : List (Addr × Addr × List (Str × V))} (h : Xs H L) (e : L.reverse = M) : Xs H M := fun t ht => h t (List.mem_reverse.mp (e ▸ ht))
def fsL (v : V) : List (List (Str × V)) := [[(("value" : Str), v)], [(("value" : Str), v)], [], [(("value" : Str), v)], [(("value" : Str), v)], [(("value" : Str), v)], [(("value" : Str), v)], [(("value" : Str), v)], [(("value" : Str), v)], [(("name" : Str), v)], [(("name" : Str), v)], [(("name" : Str), v)], [(("name" : Str), v)], [(("name" : Str), v)], [(("name" : Str), v)], [], [], [], [(("index" : Str), v), (("name" : Str), v)], [], [(("missing" : Str), v)], [(("limit" : Str), v)], [(("name" : Str), v)], [(("value" : Str), v)], [(("name" : Str), v)], [(("number" : Str), v)], [(("name" : Str), v)], [(("name" : Str), v)], [(("indexes" : Str), v)], [(("value" : Str), v)], [(("value" : Str), v)], [(("text" : Str), v)], [], [(("user" : Str), v)], [(("user" : Str), v)], [(("position" : Str), v)]]
def sp_made (K : PySem.W.Frag) : Sp := fun vs H Q _ => ∃ v : V, vs = [v] ∧ ∀ (p : Addr) (L : List (Addr × Addr × List (Str × V))) (H' : Hp), Same H H' → H' p = some (.lst (L.map fun t => V.ref t.1)) → Xs H' L →
  L.map (·.2) = (List.range 36).map (fun i => (Cn K i, (fsL v).getD i [])) → Q (.ref p) H'
section
variable {P : Program} {w : World} {K : PySem.W.Frag} {mg : Str → Option Value} {base : Heap}
theorem ok_made (T : Tx K mg) {fd : FuncData} (F : Fd K d_law_made fd)
    (G_InvalidBlock : GcX P w K mg base "InvalidBlock" bnVE bmVE ["self", "value"] (My.sp_exc K "InvalidBlock" "value"))
    (G_InvalidRecord : GcX P w K mg base "InvalidRecord" bnVE bmVE ["self", "value"] (My.sp_exc K "InvalidRecord" "value"))
    (G_InvalidDisks : GcX P w K mg base "InvalidDisks" bnVE bmVE ["self"] (My.sp_e0 K "InvalidDisks"))
    (G_InvalidName : GcX P w K mg base "InvalidName" bnVE bmVE ["self", "value"] (My.sp_exc K "InvalidName" "value"))
    (G_InvalidIndex : GcX P w K mg base "InvalidIndex" bnVE bmVE ["self", "value"] (My.sp_exc K "InvalidIndex" "value"))
    (G_InvalidSize : GcX P w K mg base "InvalidSize" bnVE bmVE ["self", "value"] (My.sp_exc K "InvalidSize" "value"))
    (G_InvalidData : GcX P w K mg base "InvalidData" bnVE bmVE ["self", "value"] (My.sp_exc K "InvalidData" "value"))
    (G_InvalidCount : GcX P w K mg base "InvalidCount" bnVE bmVE ["self", "value"] (My.sp_exc K "InvalidCount" "value"))
    (G_InvalidArea : GcX P w K mg base "InvalidArea" bnVE bmVE ["self", "value"] (My.sp_exc K "InvalidArea" "value"))
    (G_UnknownName : GcX P w K mg base "UnknownName" bnLE bmLE ["self", "name"] (My.sp_exc K "UnknownName" "name"))
    (G_NameTaken : GcX P w K mg base "NameTaken" bnLE bmLE ["self", "name"] (My.sp_exc K "NameTaken" "name"))
    (G_NotVolume : GcX P w K mg base "NotVolume" bnRE bmRE ["self", "name"] (My.sp_exc K "NotVolume" "name"))
    (G_NotSnapshot : GcX P w K mg base "NotSnapshot" bnRE bmRE ["self", "name"] (My.sp_exc K "NotSnapshot" "name"))
    (G_NotAncestor : GcX P w K mg base "NotAncestor" bnRE bmRE ["self", "name"] (My.sp_exc K "NotAncestor" "name"))
    (G_Branched : GcX P w K mg base "Branched" bnRE bmRE ["self", "name"] (My.sp_exc K "Branched" "name"))
    (G_Busy : GcX P w K mg base "Busy" bnRE bmRE ["self"] (My.sp_e0 K "Busy"))
    (G_Closed : GcX P w K mg base "Closed" bnRE bmRE ["self"] (My.sp_e0 K "Closed"))
    (G_NoStore : GcX P w K mg base "NoStore" bnRE bmRE ["self"] (My.sp_e0 K "NoStore"))
    (G_Damaged : GcX P w K mg base "Damaged" bnRE bmRE ["self", "name", "index"] (My.sp_e2 K "Damaged" "name" "index"))
    (G_PowerLoss : GcX P w K mg base "PowerLoss" bnRE bmRE ["self"] (My.sp_e0 K "PowerLoss"))
    (G_NoSpace : GcX P w K mg base "NoSpace" bnOE bmOE ["self", "missing"] (My.sp_exc K "NoSpace" "missing"))
    (G_TooMany : GcX P w K mg base "TooMany" bnOE bmOE ["self", "limit"] (My.sp_exc K "TooMany" "limit"))
    (G_QuotaExceeded : GcX P w K mg base "QuotaExceeded" bnOE bmOE ["self", "name"] (My.sp_exc K "QuotaExceeded" "name"))
    (G_InvalidPart : GcX P w K mg base "InvalidPart" bnVE bmVE ["self", "value"] (My.sp_exc K "InvalidPart" "value"))
    (G_NoBase : GcX P w K mg base "NoBase" bnLE bmLE ["self", "name"] (My.sp_exc K "NoBase" "name"))
    (G_WrongPart : GcX P w K mg base "WrongPart" bnRE bmRE ["self", "number"] (My.sp_exc K "WrongPart" "number"))
    (G_BaseDiffers : GcX P w K mg base "BaseDiffers" bnRE bmRE ["self", "name"] (My.sp_exc K "BaseDiffers" "name"))
    (G_Altered : GcX P w K mg base "Altered" bnRE bmRE ["self", "name"] (My.sp_exc K "Altered" "name"))
    (G_Clashing : GcX P w K mg base "Clashing" bnRE bmRE ["self", "indexes"] (My.sp_exc K "Clashing" "indexes"))
    (G_InvalidUser : GcX P w K mg base "InvalidUser" bnVE bmVE ["self", "value"] (My.sp_exc K "InvalidUser" "value"))
    (G_InvalidOperation : GcX P w K mg base "InvalidOperation" bnVE bmVE ["self", "value"] (My.sp_exc K "InvalidOperation" "value"))
    (G_ParseError : GcX P w K mg base "ParseError" bnVE bmVE ["self", "text"] (My.sp_exc K "ParseError" "text"))
    (G_InvalidCommand : GcX P w K mg base "InvalidCommand" bnVE bmVE ["self"] (My.sp_e0 K "InvalidCommand"))
    (G_NothingToUndo : GcX P w K mg base "NothingToUndo" bnRE bmRE ["self", "user"] (My.sp_exc K "NothingToUndo" "user"))
    (G_NothingToRedo : GcX P w K mg base "NothingToRedo" bnRE bmRE ["self", "user"] (My.sp_exc K "NothingToRedo" "user"))
    (G_StillNeeded : GcX P w K mg base "StillNeeded" bnRE bmRE ["self", "position"] (My.sp_exc K "StillNeeded" "position")) : FnOk P w K mg base CX0 3 (He.ga K "_law_made") fd ["_law_held"] (sp_made K) := by
  refine F.ok sc_law_made (fun vs H Q E h => ?_) (fun cdv A outer s H vs Q E hr h => ?_)
  · obtain ⟨v, rfl, _⟩ := h
    rfl
  · obtain ⟨v, rfl, q⟩ := h
    refine ⟨_, PSs.nox ((pss_cons (ps_set (i := 1) sc_law_made.nd rfl (Or.inl rfl) (pe_lst pa_nil))
  (pss_cons (ps_set (i := 1) sc_law_made.nd rfl (Or.inl rfl) (pe_op op_cat (pv 1) (pe_lst (pa_cons (My.pe_gc G_InvalidBlock My.bs_VE (hr.mono (by decide)) (pa_cons (pv 0) pa_nil) rfl) (pa_cons (My.pe_gc G_InvalidRecord My.bs_VE (hr.mono (by decide)) (pa_cons (pv 0) pa_nil) rfl) (pa_cons (My.pe_gc0 G_InvalidDisks My.bs_VE (hr.mono (by decide)) rfl) pa_nil))))))
  (pss_cons (ps_set (i := 1) sc_law_made.nd rfl (Or.inl rfl) (pe_op op_cat (pv 1) (pe_lst (pa_cons (My.pe_gc G_InvalidName My.bs_VE (hr.mono (by decide)) (pa_cons (pv 0) pa_nil) rfl) (pa_cons (My.pe_gc G_InvalidIndex My.bs_VE (hr.mono (by decide)) (pa_cons (pv 0) pa_nil) rfl) (pa_cons (My.pe_gc G_InvalidSize My.bs_VE (hr.mono (by decide)) (pa_cons (pv 0) pa_nil) rfl) pa_nil))))))
  (pss_cons (ps_set (i := 1) sc_law_made.nd rfl (Or.inl rfl) (pe_op op_cat (pv 1) (pe_lst (pa_cons (My.pe_gc G_InvalidData My.bs_VE (hr.mono (by decide)) (pa_cons (pv 0) pa_nil) rfl) (pa_cons (My.pe_gc G_InvalidCount My.bs_VE (hr.mono (by decide)) (pa_cons (pv 0) pa_nil) rfl) (pa_cons (My.pe_gc G_InvalidArea My.bs_VE (hr.mono (by decide)) (pa_cons (pv 0) pa_nil) rfl) pa_nil))))))
  (pss_cons (ps_set (i := 1) sc_law_made.nd rfl (Or.inl rfl) (pe_op op_cat (pv 1) (pe_lst (pa_cons (My.pe_gc G_UnknownName My.bs_LE (hr.mono (by decide)) (pa_cons (pv 0) pa_nil) rfl) (pa_cons (My.pe_gc G_NameTaken My.bs_LE (hr.mono (by decide)) (pa_cons (pv 0) pa_nil) rfl) (pa_cons (My.pe_gc G_NotVolume My.bs_RE (hr.mono (by decide)) (pa_cons (pv 0) pa_nil) rfl) pa_nil))))))
  (pss_cons (ps_set (i := 1) sc_law_made.nd rfl (Or.inl rfl) (pe_op op_cat (pv 1) (pe_lst (pa_cons (My.pe_gc G_NotSnapshot My.bs_RE (hr.mono (by decide)) (pa_cons (pv 0) pa_nil) rfl) (pa_cons (My.pe_gc G_NotAncestor My.bs_RE (hr.mono (by decide)) (pa_cons (pv 0) pa_nil) rfl) (pa_cons (My.pe_gc G_Branched My.bs_RE (hr.mono (by decide)) (pa_cons (pv 0) pa_nil) rfl) pa_nil))))))
  (pss_cons (ps_set (i := 1) sc_law_made.nd rfl (Or.inl rfl) (pe_op op_cat (pv 1) (pe_lst (pa_cons (My.pe_gc0 G_Busy My.bs_RE (hr.mono (by decide)) rfl) (pa_cons (My.pe_gc0 G_Closed My.bs_RE (hr.mono (by decide)) rfl) (pa_cons (My.pe_gc0 G_NoStore My.bs_RE (hr.mono (by decide)) rfl) pa_nil))))))
  (pss_cons (ps_set (i := 1) sc_law_made.nd rfl (Or.inl rfl) (pe_op op_cat (pv 1) (pe_lst (pa_cons (My.pe_gc G_Damaged My.bs_RE (hr.mono (by decide)) (pa_cons (pv 0) (pa_cons (pv 0) pa_nil)) rfl) (pa_cons (My.pe_gc0 G_PowerLoss My.bs_RE (hr.mono (by decide)) rfl) (pa_cons (My.pe_gc G_NoSpace My.bs_OE (hr.mono (by decide)) (pa_cons (pv 0) pa_nil) rfl) pa_nil))))))
  (pss_cons (ps_set (i := 1) sc_law_made.nd rfl (Or.inl rfl) (pe_op op_cat (pv 1) (pe_lst (pa_cons (My.pe_gc G_TooMany My.bs_OE (hr.mono (by decide)) (pa_cons (pv 0) pa_nil) rfl) (pa_cons (My.pe_gc G_QuotaExceeded My.bs_OE (hr.mono (by decide)) (pa_cons (pv 0) pa_nil) rfl) (pa_cons (My.pe_gc G_InvalidPart My.bs_VE (hr.mono (by decide)) (pa_cons (pv 0) pa_nil) rfl) pa_nil))))))
  (pss_cons (ps_set (i := 1) sc_law_made.nd rfl (Or.inl rfl) (pe_op op_cat (pv 1) (pe_lst (pa_cons (My.pe_gc G_NoBase My.bs_LE (hr.mono (by decide)) (pa_cons (pv 0) pa_nil) rfl) (pa_cons (My.pe_gc G_WrongPart My.bs_RE (hr.mono (by decide)) (pa_cons (pv 0) pa_nil) rfl) (pa_cons (My.pe_gc G_BaseDiffers My.bs_RE (hr.mono (by decide)) (pa_cons (pv 0) pa_nil) rfl) pa_nil))))))
  (pss_cons (ps_set (i := 1) sc_law_made.nd rfl (Or.inl rfl) (pe_op op_cat (pv 1) (pe_lst (pa_cons (My.pe_gc G_Altered My.bs_RE (hr.mono (by decide)) (pa_cons (pv 0) pa_nil) rfl) (pa_cons (My.pe_gc G_Clashing My.bs_RE (hr.mono (by decide)) (pa_cons (pv 0) pa_nil) rfl) (pa_cons (My.pe_gc G_InvalidUser My.bs_VE (hr.mono (by decide)) (pa_cons (pv 0) pa_nil) rfl) pa_nil))))))
  (pss_cons (ps_set (i := 1) sc_law_made.nd rfl (Or.inl rfl) (pe_op op_cat (pv 1) (pe_lst (pa_cons (My.pe_gc G_InvalidOperation My.bs_VE (hr.mono (by decide)) (pa_cons (pv 0) pa_nil) rfl) (pa_cons (My.pe_gc G_ParseError My.bs_VE (hr.mono (by decide)) (pa_cons (pv 0) pa_nil) rfl) (pa_cons (My.pe_gc0 G_InvalidCommand My.bs_VE (hr.mono (by decide)) rfl) pa_nil))))))
  (pss_cons (ps_set (i := 1) sc_law_made.nd rfl (Or.inl rfl) (pe_op op_cat (pv 1) (pe_lst (pa_cons (My.pe_gc G_NothingToUndo My.bs_RE (hr.mono (by decide)) (pa_cons (pv 0) pa_nil) rfl) (pa_cons (My.pe_gc G_NothingToRedo My.bs_RE (hr.mono (by decide)) (pa_cons (pv 0) pa_nil) rfl) (pa_cons (My.pe_gc G_StillNeeded My.bs_RE (hr.mono (by decide)) (pa_cons (pv 0) pa_nil) rfl) pa_nil))))))
  (pss_one (ps_ret (pv 1))))))))))))))))), ?_⟩
    refine My.x_start (σ := [some v, none]) rfl ?_
    try dsimp only [cxOf, Cx.nox]
    walk_at "go"
    intro R0 hR0
    have k1 := My.Same.new (o := .lst []) (Same.refl H) hR0
    generalize hH : upd H R0 (.lst []) = H1 at k1 ⊢
    have gR0 : H1 R0 = some (.lst []) := by rw [← hH]; exact upd_same
    have S := k1
    clear hH k1 hR0
    have X : Xs H1 [] := fun t ht => nomatch ht
    walk_at "go"
    refine My.gx1 fun a0 H2 ha0 k2 x0 => ?_
    replace S := S.trans k2
    replace gR0 := k2 _ _ gR0
    replace X := (X.same k2).snoc x0
    clear k2 x0 ha0
    walk_at "go"
    refine My.gx1 fun a1 H3 ha1 k3 x1 => ?_
    replace S := S.trans k3
    replace gR0 := k3 _ _ gR0
    replace X := (X.same k3).snoc x1
    clear k3 x1 ha1
    walk_at "go"
    refine My.gx0 fun a2 H4 ha2 k4 x2 => ?_
    replace S := S.trans k4
    replace gR0 := k4 _ _ gR0
    replace X := (X.same k4).snoc x2
    clear k4 x2 ha2
    walk_at "go"
    intro P hP
    have k5 := My.Same.new (o := .lst [V.ref a0, V.ref a1, V.ref a2]) (Same.refl H4) hP
    generalize hH : upd H4 P (.lst [V.ref a0, V.ref a1, V.ref a2]) = H5 at k5 ⊢
    have gP : H5 P = some (.lst [V.ref a0, V.ref a1, V.ref a2]) := by rw [← hH]; exact upd_same
    replace S := S.trans k5
    replace gR0 := k5 _ _ gR0
    replace X := X.same k5
    clear hH k5 hP
    walk_at "go"
    refine My.x_cat gR0 gP (Nat.le_of_ble_eq_true rfl) fun R1 hR1 => ?_
    have k6 := My.Same.new (o := .lst ([] ++ [V.ref a0, V.ref a1, V.ref a2])) (Same.refl H5) hR1
    generalize hH : upd H5 R1 (.lst ([] ++ [V.ref a0, V.ref a1, V.ref a2])) = H6 at k6 ⊢
    have gR1 : H6 R1 = some (.lst [V.ref a0, V.ref a1, V.ref a2]) := by rw [← hH]; exact upd_same
    replace S := S.trans k6
    replace X := X.same k6
    clear hH k6 hR1 gR0 gP
    walk_at "go"
    refine My.gx1 fun a3 H7 ha3 k7 x3 => ?_
    replace S := S.trans k7
    replace gR1 := k7 _ _ gR1
    replace X := (X.same k7).snoc x3
    clear k7 x3 ha3
    walk_at "go"
    refine My.gx1 fun a4 H8 ha4 k8 x4 => ?_
    replace S := S.trans k8
    replace gR1 := k8 _ _ gR1
    replace X := (X.same k8).snoc x4
    clear k8 x4 ha4
    walk_at "go"
    refine My.gx1 fun a5 H9 ha5 k9 x5 => ?_
    replace S := S.trans k9
    replace gR1 := k9 _ _ gR1
    replace X := (X.same k9).snoc x5
    clear k9 x5 ha5
    walk_at "go"
    intro P hP
    have k10 := My.Same.new (o := .lst [V.ref a3, V.ref a4, V.ref a5]) (Same.refl H9) hP
    generalize hH : upd H9 P (.lst [V.ref a3, V.ref a4, V.ref a5]) = H10 at k10 ⊢
    have gP : H10 P = some (.lst [V.ref a3, V.ref a4, V.ref a5]) := by rw [← hH]; exact upd_same
    replace S := S.trans k10
    replace gR1 := k10 _ _ gR1
    replace X := X.same k10
    clear hH k10 hP
    walk_at "go"
    refine My.x_cat gR1 gP (Nat.le_of_ble_eq_true rfl) fun R2 hR2 => ?_
    have k11 := My.Same.new (o := .lst ([V.ref a0, V.ref a1, V.ref a2] ++ [V.ref a3, V.ref a4, V.ref a5])) (Same.refl H10) hR2
    generalize hH : upd H10 R2 (.lst ([V.ref a0, V.ref a1, V.ref a2] ++ [V.ref a3, V.ref a4, V.ref a5])) = H11 at k11 ⊢
    have gR2 : H11 R2 = some (.lst [V.ref a0, V.ref a1, V.ref a2, V.ref a3, V.ref a4, V.ref a5]) := by rw [← hH]; exact upd_same
    replace S := S.trans k11
    replace X := X.same k11
    clear hH k11 hR2 gR1 gP
    walk_at "go"
    refine My.gx1 fun a6 H12 ha6 k12 x6 => ?_
    replace S := S.trans k12
    replace gR2 := k12 _ _ gR2
    replace X := (X.same k12).snoc x6
    clear k12 x6 ha6
    walk_at "go"
    refine My.gx1 fun a7 H13 ha7 k13 x7 => ?_
    replace S := S.trans k13
    replace gR2 := k13 _ _ gR2
    replace X := (X.same k13).snoc x7
    clear k13 x7 ha7
    walk_at "go"
    refine My.gx1 fun a8 H14 ha8 k14 x8 => ?_
    replace S := S.trans k14
    replace gR2 := k14 _ _ gR2
    replace X := (X.same k14).snoc x8
    clear k14 x8 ha8
    walk_at "go"
    intro P hP
    have k15 := My.Same.new (o := .lst [V.ref a6, V.ref a7, V.ref a8]) (Same.refl H14) hP
    generalize hH : upd H14 P (.lst [V.ref a6, V.ref a7, V.ref a8]) = H15 at k15 ⊢
    have gP : H15 P = some (.lst [V.ref a6, V.ref a7, V.ref a8]) := by rw [← hH]; exact upd_same
    replace S := S.trans k15
    replace gR2 := k15 _ _ gR2
    replace X := X.same k15
    clear hH k15 hP
    walk_at "go"
    refine My.x_cat gR2 gP (Nat.le_of_ble_eq_true rfl) fun R3 hR3 => ?_
    have k16 := My.Same.new (o := .lst ([V.ref a0, V.ref a1, V.ref a2, V.ref a3, V.ref a4, V.ref a5] ++ [V.ref a6, V.ref a7, V.ref a8])) (Same.refl H15) hR3
    generalize hH : upd H15 R3 (.lst ([V.ref a0, V.ref a1, V.ref a2, V.ref a3, V.ref a4, V.ref a5] ++ [V.ref a6, V.ref a7, V.ref a8])) = H16 at k16 ⊢
    have gR3 : H16 R3 = some (.lst [V.ref a0, V.ref a1, V.ref a2, V.ref a3, V.ref a4, V.ref a5, V.ref a6, V.ref a7, V.ref a8]) := by rw [← hH]; exact upd_same
    replace S := S.trans k16
    replace X := X.same k16
    clear hH k16 hR3 gR2 gP
    walk_at "go"
    refine My.gx1 fun a9 H17 ha9 k17 x9 => ?_
    replace S := S.trans k17
    replace gR3 := k17 _ _ gR3
    replace X := (X.same k17).snoc x9
    clear k17 x9 ha9
    walk_at "go"
    refine My.gx1 fun a10 H18 ha10 k18 x10 => ?_
    replace S := S.trans k18
    replace gR3 := k18 _ _ gR3
    replace X := (X.same k18).snoc x10
    clear k18 x10 ha10
    walk_at "go"
    refine My.gx1 fun a11 H19 ha11 k19 x11 => ?_
    replace S := S.trans k19
    replace gR3 := k19 _ _ gR3
    replace X := (X.same k19).snoc x11
    clear k19 x11 ha11
    walk_at "go"
    intro P hP
    have k20 := My.Same.new (o := .lst [V.ref a9, V.ref a10, V.ref a11]) (Same.refl H19) hP
    generalize hH : upd H19 P (.lst [V.ref a9, V.ref a10, V.ref a11]) = H20 at k20 ⊢
    have gP : H20 P = some (.lst [V.ref a9, V.ref a10, V.ref a11]) := by rw [← hH]; exact upd_same
    replace S := S.trans k20
    replace gR3 := k20 _ _ gR3
    replace X := X.same k20
    clear hH k20 hP
    walk_at "go"
    refine My.x_cat gR3 gP (Nat.le_of_ble_eq_true rfl) fun R4 hR4 => ?_
    have k21 := My.Same.new (o := .lst ([V.ref a0, V.ref a1, V.ref a2, V.ref a3, V.ref a4, V.ref a5, V.ref a6, V.ref a7, V.ref a8] ++ [V.ref a9, V.ref a10, V.ref a11])) (Same.refl H20) hR4
    generalize hH : upd H20 R4 (.lst ([V.ref a0, V.ref a1, V.ref a2, V.ref a3, V.ref a4, V.ref a5, V.ref a6, V.ref a7, V.ref a8] ++ [V.ref a9, V.ref a10, V.ref a11])) = H21 at k21 ⊢
    have gR4 : H21 R4 = some (.lst [V.ref a0, V.ref a1, V.ref a2, V.ref a3, V.ref a4, V.ref a5, V.ref a6, V.ref a7, V.ref a8, V.ref a9, V.ref a10, V.ref a11]) := by rw [← hH]; exact upd_same
    replace S := S.trans k21
    replace X := X.same k21
    clear hH k21 hR4 gR3 gP
    walk_at "go"
    refine My.gx1 fun a12 H22 ha12 k22 x12 => ?_
    replace S := S.trans k22
    replace gR4 := k22 _ _ gR4
    replace X := (X.same k22).snoc x12
    clear k22 x12 ha12
    walk_at "go"
    refine My.gx1 fun a13 H23 ha13 k23 x13 => ?_
    replace S := S.trans k23
    replace gR4 := k23 _ _ gR4
    replace X := (X.same k23).snoc x13
    clear k23 x13 ha13
    walk_at "go"
    refine My.gx1 fun a14 H24 ha14 k24 x14 => ?_
    replace S := S.trans k24
    replace gR4 := k24 _ _ gR4
    replace X := (X.same k24).snoc x14
    clear k24 x14 ha14
    walk_at "go"
    intro P hP
    have k25 := My.Same.new (o := .lst [V.ref a12, V.ref a13, V.ref a14]) (Same.refl H24) hP
    generalize hH : upd H24 P (.lst [V.ref a12, V.ref a13, V.ref a14]) = H25 at k25 ⊢
    have gP : H25 P = some (.lst [V.ref a12, V.ref a13, V.ref a14]) := by rw [← hH]; exact upd_same
    replace S := S.trans k25
    replace gR4 := k25 _ _ gR4
    replace X := X.same k25
    clear hH k25 hP
    walk_at "go"
    refine My.x_cat gR4 gP (Nat.le_of_ble_eq_true rfl) fun R5 hR5 => ?_
    have k26 := My.Same.new (o := .lst ([V.ref a0, V.ref a1, V.ref a2, V.ref a3, V.ref a4, V.ref a5, V.ref a6, V.ref a7, V.ref a8, V.ref a9, V.ref a10, V.ref a11] ++ [V.ref a12, V.ref a13, V.ref a14])) (Same.refl H25) hR5
    generalize hH : upd H25 R5 (.lst ([V.ref a0, V.ref a1, V.ref a2, V.ref a3, V.ref a4, V.ref a5, V.ref a6, V.ref a7, V.ref a8, V.ref a9, V.ref a10, V.ref a11] ++ [V.ref a12, V.ref a13, V.ref a14])) = H26 at k26 ⊢
    have gR5 : H26 R5 = some (.lst [V.ref a0, V.ref a1, V.ref a2, V.ref a3, V.ref a4, V.ref a5, V.ref a6, V.ref a7, V.ref a8, V.ref a9, V.ref a10, V.ref a11, V.ref a12, V.ref a13, V.ref a14]) := by rw [← hH]; exact upd_same
    replace S := S.trans k26
    replace X := X.same k26
    clear hH k26 hR5 gR4 gP
    walk_at "go"
    refine My.gx0 fun a15 H27 ha15 k27 x15 => ?_
    replace S := S.trans k27
    replace gR5 := k27 _ _ gR5
    replace X := (X.same k27).snoc x15
    clear k27 x15 ha15
    walk_at "go"
    refine My.gx0 fun a16 H28 ha16 k28 x16 => ?_
    replace S := S.trans k28
    replace gR5 := k28 _ _ gR5
    replace X := (X.same k28).snoc x16
    clear k28 x16 ha16
    walk_at "go"
    refine My.gx0 fun a17 H29 ha17 k29 x17 => ?_
    replace S := S.trans k29
    replace gR5 := k29 _ _ gR5
    replace X := (X.same k29).snoc x17
    clear k29 x17 ha17
    walk_at "go"
    intro P hP
    have k30 := My.Same.new (o := .lst [V.ref a15, V.ref a16, V.ref a17]) (Same.refl H29) hP
    generalize hH : upd H29 P (.lst [V.ref a15, V.ref a16, V.ref a17]) = H30 at k30 ⊢
    have gP : H30 P = some (.lst [V.ref a15, V.ref a16, V.ref a17]) := by rw [← hH]; exact upd_same
    replace S := S.trans k30
    replace gR5 := k30 _ _ gR5
    replace X := X.same k30
    clear hH k30 hP
    walk_at "go"
    refine My.x_cat gR5 gP (Nat.le_of_ble_eq_true rfl) fun R6 hR6 => ?_
    have k31 := My.Same.new (o := .lst ([V.ref a0, V.ref a1, V.ref a2, V.ref a3, V.ref a4, V.ref a5, V.ref a6, V.ref a7, V.ref a8, V.ref a9, V.ref a10, V.ref a11, V.ref a12, V.ref a13, V.ref a14] ++ [V.ref a15, V.ref a16, V.ref a17])) (Same.refl H30) hR6
    generalize hH : upd H30 R6 (.lst ([V.ref a0, V.ref a1, V.ref a2, V.ref a3, V.ref a4, V.ref a5, V.ref a6, V.ref a7, V.ref a8, V.ref a9, V.ref a10, V.ref a11, V.ref a12, V.ref a13, V.ref a14] ++ [V.ref a15, V.ref a16, V.ref a17])) = H31 at k31 ⊢
    have gR6 : H31 R6 = some (.lst [V.ref a0, V.ref a1, V.ref a2, V.ref a3, V.ref a4, V.ref a5, V.ref a6, V.ref a7, V.ref a8, V.ref a9, V.ref a10, V.ref a11, V.ref a12, V.ref a13, V.ref a14, V.ref a15, V.ref a16, V.ref a17]) := by rw [← hH]; exact upd_same
    replace S := S.trans k31
    replace X := X.same k31
    clear hH k31 hR6 gR5 gP
    walk_at "go"
    refine My.gx2 fun a18 H32 ha18 k32 x18 => ?_
    replace S := S.trans k32
    replace gR6 := k32 _ _ gR6
    replace X := (X.same k32).snoc x18
    clear k32 x18 ha18
    walk_at "go"
    refine My.gx0 fun a19 H33 ha19 k33 x19 => ?_
    replace S := S.trans k33
    replace gR6 := k33 _ _ gR6
    replace X := (X.same k33).snoc x19
    clear k33 x19 ha19
    walk_at "go"
    refine My.gx1 fun a20 H34 ha20 k34 x20 => ?_
    replace S := S.trans k34
    replace gR6 := k34 _ _ gR6
    replace X := (X.same k34).snoc x20
    clear k34 x20 ha20
    walk_at "go"
    intro P hP
    have k35 := My.Same.new (o := .lst [V.ref a18, V.ref a19, V.ref a20]) (Same.refl H34) hP
    generalize hH : upd H34 P (.lst [V.ref a18, V.ref a19, V.ref a20]) = H35 at k35 ⊢
    have gP : H35 P = some (.lst [V.ref a18, V.ref a19, V.ref a20]) := by rw [← hH]; exact upd_same
    replace S := S.trans k35
    replace gR6 := k35 _ _ gR6
    replace X := X.same k35
    clear hH k35 hP
    walk_at "go"
    refine My.x_cat gR6 gP (Nat.le_of_ble_eq_true rfl) fun R7 hR7 => ?_
    have k36 := My.Same.new (o := .lst ([V.ref a0, V.ref a1, V.ref a2, V.ref a3, V.ref a4, V.ref a5, V.ref a6, V.ref a7, V.ref a8, V.ref a9, V.ref a10, V.ref a11, V.ref a12, V.ref a13, V.ref a14, V.ref a15, V.ref a16, V.ref a17] ++ [V.ref a18, V.ref a19, V.ref a20])) (Same.refl H35) hR7
    generalize hH : upd H35 R7 (.lst ([V.ref a0, V.ref a1, V.ref a2, V.ref a3, V.ref a4, V.ref a5, V.ref a6, V.ref a7, V.ref a8, V.ref a9, V.ref a10, V.ref a11, V.ref a12, V.ref a13, V.ref a14, V.ref a15, V.ref a16, V.ref a17] ++ [V.ref a18, V.ref a19, V.ref a20])) = H36 at k36 ⊢
    have gR7 : H36 R7 = some (.lst [V.ref a0, V.ref a1, V.ref a2, V.ref a3, V.ref a4, V.ref a5, V.ref a6, V.ref a7, V.ref a8, V.ref a9, V.ref a10, V.ref a11, V.ref a12, V.ref a13, V.ref a14, V.ref a15, V.ref a16, V.ref a17, V.ref a18, V.ref a19, V.ref a20]) := by rw [← hH]; exact upd_same
    replace S := S.trans k36
    replace X := X.same k36
    clear hH k36 hR7 gR6 gP
    walk_at "go"
    refine My.gx1 fun a21 H37 ha21 k37 x21 => ?_
    replace S := S.trans k37
    replace gR7 := k37 _ _ gR7
    replace X := (X.same k37).snoc x21
    clear k37 x21 ha21
    walk_at "go"
    refine My.gx1 fun a22 H38 ha22 k38 x22 => ?_
    replace S := S.trans k38
    replace gR7 := k38 _ _ gR7
    replace X := (X.same k38).snoc x22
    clear k38 x22 ha22
    walk_at "go"
    refine My.gx1 fun a23 H39 ha23 k39 x23 => ?_
    replace S := S.trans k39
    replace gR7 := k39 _ _ gR7
    replace X := (X.same k39).snoc x23
    clear k39 x23 ha23
    walk_at "go"
    intro P hP
    have k40 := My.Same.new (o := .lst [V.ref a21, V.ref a22, V.ref a23]) (Same.refl H39) hP
    generalize hH : upd H39 P (.lst [V.ref a21, V.ref a22, V.ref a23]) = H40 at k40 ⊢
    have gP : H40 P = some (.lst [V.ref a21, V.ref a22, V.ref a23]) := by rw [← hH]; exact upd_same
    replace S := S.trans k40
    replace gR7 := k40 _ _ gR7
    replace X := X.same k40
    clear hH k40 hP
    walk_at "go"
    refine My.x_cat gR7 gP (Nat.le_of_ble_eq_true rfl) fun R8 hR8 => ?_
    have k41 := My.Same.new (o := .lst ([V.ref a0, V.ref a1, V.ref a2, V.ref a3, V.ref a4, V.ref a5, V.ref a6, V.ref a7, V.ref a8, V.ref a9, V.ref a10, V.ref a11, V.ref a12, V.ref a13, V.ref a14, V.ref a15, V.ref a16, V.ref a17, V.ref a18, V.ref a19, V.ref a20] ++ [V.ref a21, V.ref a22, V.ref a23])) (Same.refl H40) hR8
    generalize hH : upd H40 R8 (.lst ([V.ref a0, V.ref a1, V.ref a2, V.ref a3, V.ref a4, V.ref a5, V.ref a6, V.ref a7, V.ref a8, V.ref a9, V.ref a10, V.ref a11, V.ref a12, V.ref a13, V.ref a14, V.ref a15, V.ref a16, V.ref a17, V.ref a18, V.ref a19, V.ref a20] ++ [V.ref a21, V.ref a22, V.ref a23])) = H41 at k41 ⊢
    have gR8 : H41 R8 = some (.lst [V.ref a0, V.ref a1, V.ref a2, V.ref a3, V.ref a4, V.ref a5, V.ref a6, V.ref a7, V.ref a8, V.ref a9, V.ref a10, V.ref a11, V.ref a12, V.ref a13, V.ref a14, V.ref a15, V.ref a16, V.ref a17, V.ref a18, V.ref a19, V.ref a20, V.ref a21, V.ref a22, V.ref a23]) := by rw [← hH]; exact upd_same
    replace S := S.trans k41
    replace X := X.same k41
    clear hH k41 hR8 gR7 gP
    walk_at "go"
    refine My.gx1 fun a24 H42 ha24 k42 x24 => ?_
    replace S := S.trans k42
    replace gR8 := k42 _ _ gR8
    replace X := (X.same k42).snoc x24
    clear k42 x24 ha24
    walk_at "go"
    refine My.gx1 fun a25 H43 ha25 k43 x25 => ?_
    replace S := S.trans k43
    replace gR8 := k43 _ _ gR8
    replace X := (X.same k43).snoc x25
    clear k43 x25 ha25
    walk_at "go"
    refine My.gx1 fun a26 H44 ha26 k44 x26 => ?_
    replace S := S.trans k44
    replace gR8 := k44 _ _ gR8
    replace X := (X.same k44).snoc x26
    clear k44 x26 ha26
    walk_at "go"
    intro P hP
    have k45 := My.Same.new (o := .lst [V.ref a24, V.ref a25, V.ref a26]) (Same.refl H44) hP
    generalize hH : upd H44 P (.lst [V.ref a24, V.ref a25, V.ref a26]) = H45 at k45 ⊢
    have gP : H45 P = some (.lst [V.ref a24, V.ref a25, V.ref a26]) := by rw [← hH]; exact upd_same
    replace S := S.trans k45
    replace gR8 := k45 _ _ gR8
    replace X := X.same k45
    clear hH k45 hP
    walk_at "go"
    refine My.x_cat gR8 gP (Nat.le_of_ble_eq_true rfl) fun R9 hR9 => ?_
    have k46 := My.Same.new (o := .lst ([V.ref a0, V.ref a1, V.ref a2, V.ref a3, V.ref a4, V.ref a5, V.ref a6, V.ref a7, V.ref a8, V.ref a9, V.ref a10, V.ref a11, V.ref a12, V.ref a13, V.ref a14, V.ref a15, V.ref a16, V.ref a17, V.ref a18, V.ref a19, V.ref a20, V.ref a21, V.ref a22, V.ref a23] ++ [V.ref a24, V.ref a25, V.ref a26])) (Same.refl H45) hR9
    generalize hH : upd H45 R9 (.lst ([V.ref a0, V.ref a1, V.ref a2, V.ref a3, V.ref a4, V.ref a5, V.ref a6, V.ref a7, V.ref a8, V.ref a9, V.ref a10, V.ref a11, V.ref a12, V.ref a13, V.ref a14, V.ref a15, V.ref a16, V.ref a17, V.ref a18, V.ref a19, V.ref a20, V.ref a21, V.ref a22, V.ref a23] ++ [V.ref a24, V.ref a25, V.ref a26])) = H46 at k46 ⊢
    have gR9 : H46 R9 = some (.lst [V.ref a0, V.ref a1, V.ref a2, V.ref a3, V.ref a4, V.ref a5, V.ref a6, V.ref a7, V.ref a8, V.ref a9, V.ref a10, V.ref a11, V.ref a12, V.ref a13, V.ref a14, V.ref a15, V.ref a16, V.ref a17, V.ref a18, V.ref a19, V.ref a20, V.ref a21, V.ref a22, V.ref a23, V.ref a24, V.ref a25, V.ref a26]) := by rw [← hH]; exact upd_same
    replace S := S.trans k46
    replace X := X.same k46
    clear hH k46 hR9 gR8 gP
    walk_at "go"
    refine My.gx1 fun a27 H47 ha27 k47 x27 => ?_
    replace S := S.trans k47
    replace gR9 := k47 _ _ gR9
    replace X := (X.same k47).snoc x27
    clear k47 x27 ha27
    walk_at "go"
    refine My.gx1 fun a28 H48 ha28 k48 x28 => ?_
    replace S := S.trans k48
    replace gR9 := k48 _ _ gR9
    replace X := (X.same k48).snoc x28
    clear k48 x28 ha28
    walk_at "go"
    refine My.gx1 fun a29 H49 ha29 k49 x29 => ?_
    replace S := S.trans k49
    replace gR9 := k49 _ _ gR9
    replace X := (X.same k49).snoc x29
    clear k49 x29 ha29
    walk_at "go"
    intro P hP
    have k50 := My.Same.new (o := .lst [V.ref a27, V.ref a28, V.ref a29]) (Same.refl H49) hP
    generalize hH : upd H49 P (.lst [V.ref a27, V.ref a28, V.ref a29]) = H50 at k50 ⊢
    have gP : H50 P = some (.lst [V.ref a27, V.ref a28, V.ref a29]) := by rw [← hH]; exact upd_same
    replace S := S.trans k50
    replace gR9 := k50 _ _ gR9
    replace X := X.same k50
    clear hH k50 hP
    walk_at "go"
    refine My.x_cat gR9 gP (Nat.le_of_ble_eq_true rfl) fun R10 hR10 => ?_
    have k51 := My.Same.new (o := .lst ([V.ref a0, V.ref a1, V.ref a2, V.ref a3, V.ref a4, V.ref a5, V.ref a6, V.ref a7, V.ref a8, V.ref a9, V.ref a10, V.ref a11, V.ref a12, V.ref a13, V.ref a14, V.ref a15, V.ref a16, V.ref a17, V.ref a18, V.ref a19, V.ref a20, V.ref a21, V.ref a22, V.ref a23, V.ref a24, V.ref a25, V.ref a26] ++ [V.ref a27, V.ref a28, V.ref a29])) (Same.refl H50) hR10
    generalize hH : upd H50 R10 (.lst ([V.ref a0, V.ref a1, V.ref a2, V.ref a3, V.ref a4, V.ref a5, V.ref a6, V.ref a7, V.ref a8, V.ref a9, V.ref a10, V.ref a11, V.ref a12, V.ref a13, V.ref a14, V.ref a15, V.ref a16, V.ref a17, V.ref a18, V.ref a19, V.ref a20, V.ref a21, V.ref a22, V.ref a23, V.ref a24, V.ref a25, V.ref a26] ++ [V.ref a27, V.ref a28, V.ref a29])) = H51 at k51 ⊢
    have gR10 : H51 R10 = some (.lst [V.ref a0, V.ref a1, V.ref a2, V.ref a3, V.ref a4, V.ref a5, V.ref a6, V.ref a7, V.ref a8, V.ref a9, V.ref a10, V.ref a11, V.ref a12, V.ref a13, V.ref a14, V.ref a15, V.ref a16, V.ref a17, V.ref a18, V.ref a19, V.ref a20, V.ref a21, V.ref a22, V.ref a23, V.ref a24, V.ref a25, V.ref a26, V.ref a27, V.ref a28, V.ref a29]) := by rw [← hH]; exact upd_same
    replace S := S.trans k51
    replace X := X.same k51
    clear hH k51 hR10 gR9 gP
    walk_at "go"
    refine My.gx1 fun a30 H52 ha30 k52 x30 => ?_
    replace S := S.trans k52
    replace gR10 := k52 _ _ gR10
    replace X := (X.same k52).snoc x30
    clear k52 x30 ha30
    walk_at "go"
    refine My.gx1 fun a31 H53 ha31 k53 x31 => ?_
    replace S := S.trans k53
    replace gR10 := k53 _ _ gR10
    replace X := (X.same k53).snoc x31
    clear k53 x31 ha31
    walk_at "go"
    refine My.gx0 fun a32 H54 ha32 k54 x32 => ?_
    replace S := S.trans k54
    replace gR10 := k54 _ _ gR10
    replace X := (X.same k54).snoc x32
    clear k54 x32 ha32
    walk_at "go"
    intro P hP
    have k55 := My.Same.new (o := .lst [V.ref a30, V.ref a31, V.ref a32]) (Same.refl H54) hP
    generalize hH : upd H54 P (.lst [V.ref a30, V.ref a31, V.ref a32]) = H55 at k55 ⊢
    have gP : H55 P = some (.lst [V.ref a30, V.ref a31, V.ref a32]) := by rw [← hH]; exact upd_same
    replace S := S.trans k55
    replace gR10 := k55 _ _ gR10
    replace X := X.same k55
    clear hH k55 hP
    walk_at "go"
    refine My.x_cat gR10 gP (Nat.le_of_ble_eq_true rfl) fun R11 hR11 => ?_
    have k56 := My.Same.new (o := .lst ([V.ref a0, V.ref a1, V.ref a2, V.ref a3, V.ref a4, V.ref a5, V.ref a6, V.ref a7, V.ref a8, V.ref a9, V.ref a10, V.ref a11, V.ref a12, V.ref a13, V.ref a14, V.ref a15, V.ref a16, V.ref a17, V.ref a18, V.ref a19, V.ref a20, V.ref a21, V.ref a22, V.ref a23, V.ref a24, V.ref a25, V.ref a26, V.ref a27, V.ref a28, V.ref a29] ++ [V.ref a30, V.ref a31, V.ref a32])) (Same.refl H55) hR11
    generalize hH : upd H55 R11 (.lst ([V.ref a0, V.ref a1, V.ref a2, V.ref a3, V.ref a4, V.ref a5, V.ref a6, V.ref a7, V.ref a8, V.ref a9, V.ref a10, V.ref a11, V.ref a12, V.ref a13, V.ref a14, V.ref a15, V.ref a16, V.ref a17, V.ref a18, V.ref a19, V.ref a20, V.ref a21, V.ref a22, V.ref a23, V.ref a24, V.ref a25, V.ref a26, V.ref a27, V.ref a28, V.ref a29] ++ [V.ref a30, V.ref a31, V.ref a32])) = H56 at k56 ⊢
    have gR11 : H56 R11 = some (.lst [V.ref a0, V.ref a1, V.ref a2, V.ref a3, V.ref a4, V.ref a5, V.ref a6, V.ref a7, V.ref a8, V.ref a9, V.ref a10, V.ref a11, V.ref a12, V.ref a13, V.ref a14, V.ref a15, V.ref a16, V.ref a17, V.ref a18, V.ref a19, V.ref a20, V.ref a21, V.ref a22, V.ref a23, V.ref a24, V.ref a25, V.ref a26, V.ref a27, V.ref a28, V.ref a29, V.ref a30, V.ref a31, V.ref a32]) := by rw [← hH]; exact upd_same
    replace S := S.trans k56
    replace X := X.same k56
    clear hH k56 hR11 gR10 gP
    walk_at "go"
    refine My.gx1 fun a33 H57 ha33 k57 x33 => ?_
    replace S := S.trans k57
    replace gR11 := k57 _ _ gR11
    replace X := (X.same k57).snoc x33
    clear k57 x33 ha33
    walk_at "go"
    refine My.gx1 fun a34 H58 ha34 k58 x34 => ?_
    replace S := S.trans k58
    replace gR11 := k58 _ _ gR11
    replace X := (X.same k58).snoc x34
    clear k58 x34 ha34
    walk_at "go"
    refine My.gx1 fun a35 H59 ha35 k59 x35 => ?_
    replace S := S.trans k59
    replace gR11 := k59 _ _ gR11
    replace X := (X.same k59).snoc x35
    clear k59 x35 ha35
    walk_at "go"
    intro P hP
    have k60 := My.Same.new (o := .lst [V.ref a33, V.ref a34, V.ref a35]) (Same.refl H59) hP
    generalize hH : upd H59 P (.lst [V.ref a33, V.ref a34, V.ref a35]) = H60 at k60 ⊢
    have gP : H60 P = some (.lst [V.ref a33, V.ref a34, V.ref a35]) := by rw [← hH]; exact upd_same
    replace S := S.trans k60
    replace gR11 := k60 _ _ gR11
    replace X := X.same k60
    clear hH k60 hP
    walk_at "go"
    refine My.x_cat gR11 gP (Nat.le_of_ble_eq_true rfl) fun R12 hR12 => ?_
    have k61 := My.Same.new (o := .lst ([V.ref a0, V.ref a1, V.ref a2, V.ref a3, V.ref a4, V.ref a5, V.ref a6, V.ref a7, V.ref a8, V.ref a9, V.ref a10, V.ref a11, V.ref a12, V.ref a13, V.ref a14, V.ref a15, V.ref a16, V.ref a17, V.ref a18, V.ref a19, V.ref a20, V.ref a21, V.ref a22, V.ref a23, V.ref a24, V.ref a25, V.ref a26, V.ref a27, V.ref a28, V.ref a29, V.ref a30, V.ref a31, V.ref a32] ++ [V.ref a33, V.ref a34, V.ref a35])) (Same.refl H60) hR12
    generalize hH : upd H60 R12 (.lst ([V.ref a0, V.ref a1, V.ref a2, V.ref a3, V.ref a4, V.ref a5, V.ref a6, V.ref a7, V.ref a8, V.ref a9, V.ref a10, V.ref a11, V.ref a12, V.ref a13, V.ref a14, V.ref a15, V.ref a16, V.ref a17, V.ref a18, V.ref a19, V.ref a20, V.ref a21, V.ref a22, V.ref a23, V.ref a24, V.ref a25, V.ref a26, V.ref a27, V.ref a28, V.ref a29, V.ref a30, V.ref a31, V.ref a32] ++ [V.ref a33, V.ref a34, V.ref a35])) = H61 at k61 ⊢
    have gR12 : H61 R12 = some (.lst [V.ref a0, V.ref a1, V.ref a2, V.ref a3, V.ref a4, V.ref a5, V.ref a6, V.ref a7, V.ref a8, V.ref a9, V.ref a10, V.ref a11, V.ref a12, V.ref a13, V.ref a14, V.ref a15, V.ref a16, V.ref a17, V.ref a18, V.ref a19, V.ref a20, V.ref a21, V.ref a22, V.ref a23, V.ref a24, V.ref a25, V.ref a26, V.ref a27, V.ref a28, V.ref a29, V.ref a30, V.ref a31, V.ref a32, V.ref a33, V.ref a34, V.ref a35]) := by rw [← hH]; exact upd_same
    replace S := S.trans k61
    replace X := X.same k61
    clear hH k61 hR12 gR11 gP
    walk_at "go"
    have X2 : Xs H61 [(a0, He.ga K "InvalidBlock", [(("value" : Str), v)]), (a1, He.ga K "InvalidRecord", [(("value" : Str), v)]), (a2, He.ga K "InvalidDisks", []), (a3, He.ga K "InvalidName", [(("value" : Str), v)]), (a4, He.ga K "InvalidIndex", [(("value" : Str), v)]), (a5, He.ga K "InvalidSize", [(("value" : Str), v)]), (a6, He.ga K "InvalidData", [(("value" : Str), v)]), (a7, He.ga K "InvalidCount", [(("value" : Str), v)]), (a8, He.ga K "InvalidArea", [(("value" : Str), v)]), (a9, He.ga K "UnknownName", [(("name" : Str), v)]), (a10, He.ga K "NameTaken", [(("name" : Str), v)]), (a11, He.ga K "NotVolume", [(("name" : Str), v)]), (a12, He.ga K "NotSnapshot", [(("name" : Str), v)]), (a13, He.ga K "NotAncestor", [(("name" : Str), v)]), (a14, He.ga K "Branched", [(("name" : Str), v)]), (a15, He.ga K "Busy", []), (a16, He.ga K "Closed", []), (a17, He.ga K "NoStore", []), (a18, He.ga K "Damaged", [(("index" : Str), v), (("name" : Str), v)]), (a19, He.ga K "PowerLoss", []), (a20, He.ga K "NoSpace", [(("missing" : Str), v)]), (a21, He.ga K "TooMany", [(("limit" : Str), v)]), (a22, He.ga K "QuotaExceeded", [(("name" : Str), v)]), (a23, He.ga K "InvalidPart", [(("value" : Str), v)]), (a24, He.ga K "NoBase", [(("name" : Str), v)]), (a25, He.ga K "WrongPart", [(("number" : Str), v)]), (a26, He.ga K "BaseDiffers", [(("name" : Str), v)]), (a27, He.ga K "Altered", [(("name" : Str), v)]), (a28, He.ga K "Clashing", [(("indexes" : Str), v)]), (a29, He.ga K "InvalidUser", [(("value" : Str), v)]), (a30, He.ga K "InvalidOperation", [(("value" : Str), v)]), (a31, He.ga K "ParseError", [(("text" : Str), v)]), (a32, He.ga K "InvalidCommand", []), (a33, He.ga K "NothingToUndo", [(("user" : Str), v)]), (a34, He.ga K "NothingToRedo", [(("user" : Str), v)]), (a35, He.ga K "StillNeeded", [(("position" : Str), v)])] := X.rev (L := [(a35, He.ga K "StillNeeded", [(("position" : Str), v)]), (a34, He.ga K "NothingToRedo", [(("user" : Str), v)]), (a33, He.ga K "NothingToUndo", [(("user" : Str), v)]), (a32, He.ga K "InvalidCommand", []), (a31, He.ga K "ParseError", [(("text" : Str), v)]), (a30, He.ga K "InvalidOperation", [(("value" : Str), v)]), (a29, He.ga K "InvalidUser", [(("value" : Str), v)]), (a28, He.ga K "Clashing", [(("indexes" : Str), v)]), (a27, He.ga K "Altered", [(("name" : Str), v)]), (a26, He.ga K "BaseDiffers", [(("name" : Str), v)]), (a25, He.ga K "WrongPart", [(("number" : Str), v)]), (a24, He.ga K "NoBase", [(("name" : Str), v)]), (a23, He.ga K "InvalidPart", [(("value" : Str), v)]), (a22, He.ga K "QuotaExceeded", [(("name" : Str), v)]), (a21, He.ga K "TooMany", [(("limit" : Str), v)]), (a20, He.ga K "NoSpace", [(("missing" : Str), v)]), (a19, He.ga K "PowerLoss", []), (a18, He.ga K "Damaged", [(("index" : Str), v), (("name" : Str), v)]), (a17, He.ga K "NoStore", []), (a16, He.ga K "Closed", []), (a15, He.ga K "Busy", []), (a14, He.ga K "Branched", [(("name" : Str), v)]), (a13, He.ga K "NotAncestor", [(("name" : Str), v)]), (a12, He.ga K "NotSnapshot", [(("name" : Str), v)]), (a11, He.ga K "NotVolume", [(("name" : Str), v)]), (a10, He.ga K "NameTaken", [(("name" : Str), v)]), (a9, He.ga K "UnknownName", [(("name" : Str), v)]), (a8, He.ga K "InvalidArea", [(("value" : Str), v)]), (a7, He.ga K "InvalidCount", [(("value" : Str), v)]), (a6, He.ga K "InvalidData", [(("value" : Str), v)]), (a5, He.ga K "InvalidSize", [(("value" : Str), v)]), (a4, He.ga K "InvalidIndex", [(("value" : Str), v)]), (a3, He.ga K "InvalidName", [(("value" : Str), v)]), (a2, He.ga K "InvalidDisks", []), (a1, He.ga K "InvalidRecord", [(("value" : Str), v)]), (a0, He.ga K "InvalidBlock", [(("value" : Str), v)])]) rfl
    exact q R12 [(a0, He.ga K "InvalidBlock", [(("value" : Str), v)]), (a1, He.ga K "InvalidRecord", [(("value" : Str), v)]), (a2, He.ga K "InvalidDisks", []), (a3, He.ga K "InvalidName", [(("value" : Str), v)]), (a4, He.ga K "InvalidIndex", [(("value" : Str), v)]), (a5, He.ga K "InvalidSize", [(("value" : Str), v)]), (a6, He.ga K "InvalidData", [(("value" : Str), v)]), (a7, He.ga K "InvalidCount", [(("value" : Str), v)]), (a8, He.ga K "InvalidArea", [(("value" : Str), v)]), (a9, He.ga K "UnknownName", [(("name" : Str), v)]), (a10, He.ga K "NameTaken", [(("name" : Str), v)]), (a11, He.ga K "NotVolume", [(("name" : Str), v)]), (a12, He.ga K "NotSnapshot", [(("name" : Str), v)]), (a13, He.ga K "NotAncestor", [(("name" : Str), v)]), (a14, He.ga K "Branched", [(("name" : Str), v)]), (a15, He.ga K "Busy", []), (a16, He.ga K "Closed", []), (a17, He.ga K "NoStore", []), (a18, He.ga K "Damaged", [(("index" : Str), v), (("name" : Str), v)]), (a19, He.ga K "PowerLoss", []), (a20, He.ga K "NoSpace", [(("missing" : Str), v)]), (a21, He.ga K "TooMany", [(("limit" : Str), v)]), (a22, He.ga K "QuotaExceeded", [(("name" : Str), v)]), (a23, He.ga K "InvalidPart", [(("value" : Str), v)]), (a24, He.ga K "NoBase", [(("name" : Str), v)]), (a25, He.ga K "WrongPart", [(("number" : Str), v)]), (a26, He.ga K "BaseDiffers", [(("name" : Str), v)]), (a27, He.ga K "Altered", [(("name" : Str), v)]), (a28, He.ga K "Clashing", [(("indexes" : Str), v)]), (a29, He.ga K "InvalidUser", [(("value" : Str), v)]), (a30, He.ga K "InvalidOperation", [(("value" : Str), v)]), (a31, He.ga K "ParseError", [(("text" : Str), v)]), (a32, He.ga K "InvalidCommand", []), (a33, He.ga K "NothingToUndo", [(("user" : Str), v)]), (a34, He.ga K "NothingToRedo", [(("user" : Str), v)]), (a35, He.ga K "StillNeeded", [(("position" : Str), v)])] H61 S gR12 X2 (by kernel_rfl)
end
end K36

end

section
set_option maxHeartbeats 4000000
local macro_rules | `(tactic| walk_at "ne") => `(tactic| first | assumption | (apply Ne.symm; assumption) | exact L2.ne_of_none (by assumption) (by assumption) | exact (L2.ne_of_none (by assumption) (by assumption)).symm)
local macro_rules | `(tactic| walk_at "hp") => `(tactic| first | assumption | exact L2.upd_same | (rw [L2.upd_ne (by walk_at "ne")]; walk_at "hp"))
local macro_rules | `(tactic| walk_at "sq") => `(tactic| first | assumption | exact L2.SqL.of (by walk_at "hp") | exact My.sq_new (by walk_at "sq") (by assumption))
local macro_rules | `(tactic| walk_at "sd") => `(tactic| first | decide | omega | (unfold L2.CDivN; omega) | (unfold L2.CMul; omega) | (unfold L2.CPow; omega))
local macro_rules | `(tactic| walk_at "sx1") => `(tactic| first | with_reducible refine My.x_seq ?_ | with_reducible refine My.x_asg ?_ | with_reducible refine My.x_ret ?_ | with_reducible refine My.x_next ?_ | with_reducible refine My.x_op ?_ | with_reducible refine My.x_c ?_ | with_reducible refine My.x_ifs ?_ | with_reducible refine My.x_test ?_ | with_reducible refine My.x_exbl ?_ | with_reducible refine My.x_cons ?_ | with_reducible refine My.x_nil ?_ | with_reducible refine My.x_cb ?_ | with_reducible refine My.x_drop ?_ | with_reducible refine My.x_par ?_ | with_reducible refine My.x_exp2 ?_ | with_reducible refine My.x_aug ?_ | with_reducible refine My.x_if ?_ | with_reducible refine My.x_tB ?_ | with_reducible refine My.x_and ?_ | with_reducible refine My.x_or ?_ | with_reducible refine My.x_not ?_ | with_reducible refine My.x_retn ?_ | with_reducible refine My.x_cont ?_ | with_reducible refine My.x_brk ?_ | with_reducible refine My.x_un ?_ | with_reducible refine My.x_tfor ?_ | with_reducible refine My.x_ilist ?_ | with_reducible refine My.x_rng1 ?_ | with_reducible refine My.x_rng2 ?_ | with_reducible refine My.x_r1 ?_ | with_reducible refine My.x_call ?_ | with_reducible refine My.x_sl ?_ | with_reducible refine My.x_part ?_ | with_reducible refine My.x_nopart ?_ | with_reducible refine My.x_ii0 ?_ | with_reducible refine My.x_yes ?_ | with_reducible refine My.x_andv ?_ | with_reducible refine My.x_orv ?_ | with_reducible refine My.x_notv ?_ | with_reducible refine My.x_iT ?_ | with_reducible refine My.x_iF ?_ | with_reducible refine My.x_chain ?_ | with_reducible refine My.x_exI ?_ | with_reducible refine My.x_wipe ?_ | with_reducible refine My.x_bm ?_ | with_reducible refine My.x_bm0 ?_ | with_reducible refine My.x_gsub ?_ | with_reducible refine My.x_int1 ?_ | with_reducible refine My.x_two ?_ | with_reducible refine My.x_lst ?_ | with_reducible refine My.x_tup ?_ | with_reducible refine My.x_revL ?_ | with_reducible refine My.x_dput ?_ | with_reducible refine My.x_dget ?_ | with_reducible refine My.x_dnew ?_ | with_reducible refine My.x_dc ?_ | with_reducible refine My.x_lc ?_ | with_reducible refine My.x_ienum ?_ | with_reducible refine My.x_gcons ?_ | with_reducible refine My.x_gnil ?_ | with_reducible refine My.x_v0 ?_ | with_reducible refine My.x_v1 ?_ | with_reducible refine My.x_v2 ?_ | with_reducible refine My.x_v3 ?_ | with_reducible refine My.x_v4 ?_ | with_reducible refine My.x_v5 ?_ | with_reducible refine My.x_v6 ?_ | with_reducible refine My.x_v7 ?_ | with_reducible refine My.x_v8 ?_ | with_reducible refine My.x_v9 ?_ | with_reducible refine My.x_v10 ?_ | with_reducible refine My.x_v11 ?_ | with_reducible refine My.x_v12 ?_ | with_reducible refine My.x_v13 ?_ | with_reducible refine My.x_v14 ?_ | with_reducible refine My.x_v15 ?_ | with_reducible refine My.x_v16 ?_ | with_reducible refine My.x_v17 ?_ | with_reducible refine My.x_v18 ?_ | with_reducible refine My.x_v19 ?_ | with_reducible refine My.x_v20 ?_ | with_reducible refine My.x_v21 ?_ | with_reducible refine My.x_v22 ?_ | with_reducible refine My.x_v23 ?_ | with_reducible refine My.x_v24 ?_ | with_reducible refine My.x_v25 ?_ | with_reducible refine My.x_g0 ?_ | with_reducible refine My.x_g1 ?_ | with_reducible refine My.x_g2 ?_ | with_reducible refine My.x_g3 ?_ | with_reducible refine My.x_g4 ?_ | with_reducible refine My.x_g5 ?_ | with_reducible refine My.x_g6 ?_ | with_reducible refine My.x_g7 ?_ | with_reducible refine My.x_g8 ?_ | with_reducible refine My.x_g9 ?_ | with_reducible refine My.x_g10 ?_ | with_reducible refine My.x_g11 ?_ | with_reducible refine My.x_g12 ?_ | with_reducible refine My.x_g13 ?_ | with_reducible refine My.x_g14 ?_ | with_reducible refine My.x_g15 ?_ | with_reducible refine My.x_g16 ?_ | with_reducible refine My.x_g17 ?_ | with_reducible refine My.x_g18 ?_ | with_reducible refine My.x_g19 ?_ | with_reducible refine My.x_g20 ?_ | with_reducible refine My.x_g21 ?_ | with_reducible refine My.x_g22 ?_ | with_reducible refine My.x_g23 ?_ | with_reducible refine My.x_g24 ?_ | with_reducible refine My.x_g25 ?_)
local macro_rules | `(tactic| walk_at "sx") => `(tactic| repeat (walk_at "sx1"))
local macro_rules | `(tactic| walk_at "ln") => `(tactic| first | assumption | exact Nat.le_of_ble_eq_true rfl | (simp only [List.length_append, List.length_map, List.length_cons, List.length_nil]; simp only [PySem.sizeLine]; omega))
local macro_rules | `(tactic| walk_at "st") => `(tactic| first | assumption | exact L2.SqT.of (by walk_at "hp"))
local macro_rules | `(tactic| walk_at "go1") => `(tactic| first | walk_at "sx1" | ((with_reducible refine' My.x_ixL ?x0 ?x1 ?x2); (case x0 => walk_at "sq"); (case x1 => exact rfl)) | ((with_reducible refine' My.x_ixT ?x0 ?x1 ?x2); (case x0 => walk_at "st"); (case x1 => exact rfl)) | ((with_reducible refine' My.x_i ?x0 ?x1); (case x0 => walk_at "sd")) | ((with_reducible refine' My.x_setL ?x0 ?x1 ?x2); (case x0 => walk_at "hp"); (case x1 => exact rfl)) | ((with_reducible refine' My.x_len ?x0 ?x1); (case x0 => walk_at "sq")) | ((with_reducible refine' My.x_lenT ?x0 ?x1); (case x0 => walk_at "st")) | ((with_reducible refine' My.x_lenD ?x0 ?x1); (case x0 => walk_at "hp")) | ((with_reducible refine' My.x_append ?x0 ?x1 ?x2); (case x0 => walk_at "hp"); (case x1 => walk_at "ln")) | ((with_reducible refine' My.x_tyL ?x0 ?x1); (case x0 => walk_at "hp")) | ((with_reducible refine' My.x_ilistE ?x0 ?x1); (case x0 => walk_at "sq")) | ((with_reducible refine' My.x_ienumE ?x0 ?x1); (case x0 => walk_at "sq")) | ((with_reducible refine' My.x_sortI ?x0 ?x1); (case x0 => walk_at "sq")) | ((with_reducible refine' My.x_slL ?x0 ?x1); (case x0 => walk_at "sq")) | ((with_reducible refine' My.x_revL2 ?x0 ?x1); (case x0 => walk_at "sq")) | ((with_reducible refine' My.x_eq ?x0 ?x1); (case x0 => exact rfl)) | ((with_reducible refine' My.x_ne ?x0 ?x1); (case x0 => exact rfl)) | ((with_reducible refine' My.x_dputI ?x0 ?x1 ?x2); (case x0 => walk_at "hp"); (case x1 => walk_at "ln")) | ((with_reducible refine' My.x_dputS ?x0 ?x1 ?x2); (case x0 => walk_at "hp"); (case x1 => walk_at "ln")) | ((with_reducible refine' My.x_seqof ?x0 ?x1); (case x0 => walk_at "sq")) | ((with_reducible refine' My.x_gtup ?x0 ?x1 ?x2); (case x0 => walk_at "st"); (case x1 => exact rfl)) | ((with_reducible refine' My.x_mem1 ?x0 ?x1); (case x0 => walk_at "ln")))
local macro_rules | `(tactic| walk_at "go") => `(tactic| repeat (walk_at "go1"))
local macro_rules | `(tactic| walk_at "sx1") => `(tactic| first | with_reducible refine My.x_gx ?_ | with_reducible refine My.x_gxK ?_ | with_reducible refine My.x_gi ?_ | with_reducible refine My.x_gst ?_ | with_reducible refine My.x_xg ?_ | with_reducible refine My.x_nF ?_ | with_reducible refine My.x_nT ?_)
namespace K36
open PySem PySem.Spec PyProof.Rows L2
section
variable {P : Program} {w : World} {K : PySem.W.Frag} {mg : Str → Option Value} {base : Heap}
theorem ok_named (T : Tx K mg) {fd : FuncData} (F : Fd K d_law_named fd)
    (G_InvalidBlock : GcX P w K mg base "InvalidBlock" bnVE bmVE ["self", "value"] (My.sp_exc K "InvalidBlock" "value"))
    (G_InvalidRecord : GcX P w K mg base "InvalidRecord" bnVE bmVE ["self", "value"] (My.sp_exc K "InvalidRecord" "value"))
    (G_InvalidDisks : GcX P w K mg base "InvalidDisks" bnVE bmVE ["self"] (My.sp_e0 K "InvalidDisks"))
    (G_InvalidName : GcX P w K mg base "InvalidName" bnVE bmVE ["self", "value"] (My.sp_exc K "InvalidName" "value"))
    (G_InvalidIndex : GcX P w K mg base "InvalidIndex" bnVE bmVE ["self", "value"] (My.sp_exc K "InvalidIndex" "value"))
    (G_InvalidSize : GcX P w K mg base "InvalidSize" bnVE bmVE ["self", "value"] (My.sp_exc K "InvalidSize" "value"))
    (G_InvalidData : GcX P w K mg base "InvalidData" bnVE bmVE ["self", "value"] (My.sp_exc K "InvalidData" "value"))
    (G_InvalidCount : GcX P w K mg base "InvalidCount" bnVE bmVE ["self", "value"] (My.sp_exc K "InvalidCount" "value"))
    (G_InvalidArea : GcX P w K mg base "InvalidArea" bnVE bmVE ["self", "value"] (My.sp_exc K "InvalidArea" "value"))
    (G_UnknownName : GcX P w K mg base "UnknownName" bnLE bmLE ["self", "name"] (My.sp_exc K "UnknownName" "name"))
    (G_NameTaken : GcX P w K mg base "NameTaken" bnLE bmLE ["self", "name"] (My.sp_exc K "NameTaken" "name"))
    (G_NotVolume : GcX P w K mg base "NotVolume" bnRE bmRE ["self", "name"] (My.sp_exc K "NotVolume" "name"))
    (G_NotSnapshot : GcX P w K mg base "NotSnapshot" bnRE bmRE ["self", "name"] (My.sp_exc K "NotSnapshot" "name"))
    (G_NotAncestor : GcX P w K mg base "NotAncestor" bnRE bmRE ["self", "name"] (My.sp_exc K "NotAncestor" "name"))
    (G_Branched : GcX P w K mg base "Branched" bnRE bmRE ["self", "name"] (My.sp_exc K "Branched" "name"))
    (G_Busy : GcX P w K mg base "Busy" bnRE bmRE ["self"] (My.sp_e0 K "Busy"))
    (G_Closed : GcX P w K mg base "Closed" bnRE bmRE ["self"] (My.sp_e0 K "Closed"))
    (G_NoStore : GcX P w K mg base "NoStore" bnRE bmRE ["self"] (My.sp_e0 K "NoStore"))
    (G_Damaged : GcX P w K mg base "Damaged" bnRE bmRE ["self", "name", "index"] (My.sp_e2 K "Damaged" "name" "index"))
    (G_PowerLoss : GcX P w K mg base "PowerLoss" bnRE bmRE ["self"] (My.sp_e0 K "PowerLoss"))
    (G_NoSpace : GcX P w K mg base "NoSpace" bnOE bmOE ["self", "missing"] (My.sp_exc K "NoSpace" "missing"))
    (G_TooMany : GcX P w K mg base "TooMany" bnOE bmOE ["self", "limit"] (My.sp_exc K "TooMany" "limit"))
    (G_QuotaExceeded : GcX P w K mg base "QuotaExceeded" bnOE bmOE ["self", "name"] (My.sp_exc K "QuotaExceeded" "name"))
    (G_InvalidPart : GcX P w K mg base "InvalidPart" bnVE bmVE ["self", "value"] (My.sp_exc K "InvalidPart" "value"))
    (G_NoBase : GcX P w K mg base "NoBase" bnLE bmLE ["self", "name"] (My.sp_exc K "NoBase" "name"))
    (G_WrongPart : GcX P w K mg base "WrongPart" bnRE bmRE ["self", "number"] (My.sp_exc K "WrongPart" "number"))
    (G_BaseDiffers : GcX P w K mg base "BaseDiffers" bnRE bmRE ["self", "name"] (My.sp_exc K "BaseDiffers" "name"))
    (G_Altered : GcX P w K mg base "Altered" bnRE bmRE ["self", "name"] (My.sp_exc K "Altered" "name"))
    (G_Clashing : GcX P w K mg base "Clashing" bnRE bmRE ["self", "indexes"] (My.sp_exc K "Clashing" "indexes"))
    (G_InvalidUser : GcX P w K mg base "InvalidUser" bnVE bmVE ["self", "value"] (My.sp_exc K "InvalidUser" "value"))
    (G_InvalidOperation : GcX P w K mg base "InvalidOperation" bnVE bmVE ["self", "value"] (My.sp_exc K "InvalidOperation" "value"))
    (G_ParseError : GcX P w K mg base "ParseError" bnVE bmVE ["self", "text"] (My.sp_exc K "ParseError" "text"))
    (G_InvalidCommand : GcX P w K mg base "InvalidCommand" bnVE bmVE ["self"] (My.sp_e0 K "InvalidCommand"))
    (G_NothingToUndo : GcX P w K mg base "NothingToUndo" bnRE bmRE ["self", "user"] (My.sp_exc K "NothingToUndo" "user"))
    (G_NothingToRedo : GcX P w K mg base "NothingToRedo" bnRE bmRE ["self", "user"] (My.sp_exc K "NothingToRedo" "user"))
    (G_StillNeeded : GcX P w K mg base "StillNeeded" bnRE bmRE ["self", "position"] (My.sp_exc K "StillNeeded" "position")) : FnOk P w K mg base CX0 3 (He.ga K "_law_named") fd ["_law_held"] (sp_made K) := by
  refine F.ok sc_law_named (fun vs H Q E h => ?_) (fun cdv A outer s H vs Q E hr h => ?_)
  · obtain ⟨v, rfl, _⟩ := h
    rfl
  · obtain ⟨v, rfl, q⟩ := h
    refine ⟨_, PSs.nox ((pss_cons (ps_set (i := 1) sc_law_named.nd rfl (Or.inl rfl) (pe_lst pa_nil))
  (pss_cons (ps_set (i := 1) sc_law_named.nd rfl (Or.inl rfl) (pe_op op_cat (pv 1) (pe_lst (pa_cons (My.pe_gcK G_InvalidBlock My.bs_VE (hr.mono (by decide)) (pk_cons (pv 0) pk_nil) rfl) (pa_cons (My.pe_gcK G_InvalidRecord My.bs_VE (hr.mono (by decide)) (pk_cons (pv 0) pk_nil) rfl) pa_nil)))))
  (pss_cons (ps_set (i := 1) sc_law_named.nd rfl (Or.inl rfl) (pe_op op_cat (pv 1) (pe_lst (pa_cons (My.pe_gc0 G_InvalidDisks My.bs_VE (hr.mono (by decide)) rfl) (pa_cons (My.pe_gcK G_InvalidName My.bs_VE (hr.mono (by decide)) (pk_cons (pv 0) pk_nil) rfl) pa_nil)))))
  (pss_cons (ps_set (i := 1) sc_law_named.nd rfl (Or.inl rfl) (pe_op op_cat (pv 1) (pe_lst (pa_cons (My.pe_gcK G_InvalidIndex My.bs_VE (hr.mono (by decide)) (pk_cons (pv 0) pk_nil) rfl) (pa_cons (My.pe_gcK G_InvalidSize My.bs_VE (hr.mono (by decide)) (pk_cons (pv 0) pk_nil) rfl) pa_nil)))))
  (pss_cons (ps_set (i := 1) sc_law_named.nd rfl (Or.inl rfl) (pe_op op_cat (pv 1) (pe_lst (pa_cons (My.pe_gcK G_InvalidData My.bs_VE (hr.mono (by decide)) (pk_cons (pv 0) pk_nil) rfl) (pa_cons (My.pe_gcK G_InvalidCount My.bs_VE (hr.mono (by decide)) (pk_cons (pv 0) pk_nil) rfl) pa_nil)))))
  (pss_cons (ps_set (i := 1) sc_law_named.nd rfl (Or.inl rfl) (pe_op op_cat (pv 1) (pe_lst (pa_cons (My.pe_gcK G_InvalidArea My.bs_VE (hr.mono (by decide)) (pk_cons (pv 0) pk_nil) rfl) (pa_cons (My.pe_gcK G_UnknownName My.bs_LE (hr.mono (by decide)) (pk_cons (pv 0) pk_nil) rfl) pa_nil)))))
  (pss_cons (ps_set (i := 1) sc_law_named.nd rfl (Or.inl rfl) (pe_op op_cat (pv 1) (pe_lst (pa_cons (My.pe_gcK G_NameTaken My.bs_LE (hr.mono (by decide)) (pk_cons (pv 0) pk_nil) rfl) (pa_cons (My.pe_gcK G_NotVolume My.bs_RE (hr.mono (by decide)) (pk_cons (pv 0) pk_nil) rfl) pa_nil)))))
  (pss_cons (ps_set (i := 1) sc_law_named.nd rfl (Or.inl rfl) (pe_op op_cat (pv 1) (pe_lst (pa_cons (My.pe_gcK G_NotSnapshot My.bs_RE (hr.mono (by decide)) (pk_cons (pv 0) pk_nil) rfl) (pa_cons (My.pe_gcK G_NotAncestor My.bs_RE (hr.mono (by decide)) (pk_cons (pv 0) pk_nil) rfl) pa_nil)))))
  (pss_cons (ps_set (i := 1) sc_law_named.nd rfl (Or.inl rfl) (pe_op op_cat (pv 1) (pe_lst (pa_cons (My.pe_gcK G_Branched My.bs_RE (hr.mono (by decide)) (pk_cons (pv 0) pk_nil) rfl) (pa_cons (My.pe_gc0 G_Busy My.bs_RE (hr.mono (by decide)) rfl) pa_nil)))))
  (pss_cons (ps_set (i := 1) sc_law_named.nd rfl (Or.inl rfl) (pe_op op_cat (pv 1) (pe_lst (pa_cons (My.pe_gc0 G_Closed My.bs_RE (hr.mono (by decide)) rfl) (pa_cons (My.pe_gc0 G_NoStore My.bs_RE (hr.mono (by decide)) rfl) pa_nil)))))
  (pss_cons (ps_set (i := 1) sc_law_named.nd rfl (Or.inl rfl) (pe_op op_cat (pv 1) (pe_lst (pa_cons (My.pe_gcK G_Damaged My.bs_RE (hr.mono (by decide)) (pk_cons (pv 0) (pk_cons (pv 0) pk_nil)) rfl) (pa_cons (My.pe_gc0 G_PowerLoss My.bs_RE (hr.mono (by decide)) rfl) pa_nil)))))
  (pss_cons (ps_set (i := 1) sc_law_named.nd rfl (Or.inl rfl) (pe_op op_cat (pv 1) (pe_lst (pa_cons (My.pe_gcK G_NoSpace My.bs_OE (hr.mono (by decide)) (pk_cons (pv 0) pk_nil) rfl) (pa_cons (My.pe_gcK G_TooMany My.bs_OE (hr.mono (by decide)) (pk_cons (pv 0) pk_nil) rfl) pa_nil)))))
  (pss_cons (ps_set (i := 1) sc_law_named.nd rfl (Or.inl rfl) (pe_op op_cat (pv 1) (pe_lst (pa_cons (My.pe_gcK G_QuotaExceeded My.bs_OE (hr.mono (by decide)) (pk_cons (pv 0) pk_nil) rfl) (pa_cons (My.pe_gcK G_InvalidPart My.bs_VE (hr.mono (by decide)) (pk_cons (pv 0) pk_nil) rfl) pa_nil)))))
  (pss_cons (ps_set (i := 1) sc_law_named.nd rfl (Or.inl rfl) (pe_op op_cat (pv 1) (pe_lst (pa_cons (My.pe_gcK G_NoBase My.bs_LE (hr.mono (by decide)) (pk_cons (pv 0) pk_nil) rfl) (pa_cons (My.pe_gcK G_WrongPart My.bs_RE (hr.mono (by decide)) (pk_cons (pv 0) pk_nil) rfl) pa_nil)))))
  (pss_cons (ps_set (i := 1) sc_law_named.nd rfl (Or.inl rfl) (pe_op op_cat (pv 1) (pe_lst (pa_cons (My.pe_gcK G_BaseDiffers My.bs_RE (hr.mono (by decide)) (pk_cons (pv 0) pk_nil) rfl) (pa_cons (My.pe_gcK G_Altered My.bs_RE (hr.mono (by decide)) (pk_cons (pv 0) pk_nil) rfl) pa_nil)))))
  (pss_cons (ps_set (i := 1) sc_law_named.nd rfl (Or.inl rfl) (pe_op op_cat (pv 1) (pe_lst (pa_cons (My.pe_gcK G_Clashing My.bs_RE (hr.mono (by decide)) (pk_cons (pv 0) pk_nil) rfl) (pa_cons (My.pe_gcK G_InvalidUser My.bs_VE (hr.mono (by decide)) (pk_cons (pv 0) pk_nil) rfl) pa_nil)))))
  (pss_cons (ps_set (i := 1) sc_law_named.nd rfl (Or.inl rfl) (pe_op op_cat (pv 1) (pe_lst (pa_cons (My.pe_gcK G_InvalidOperation My.bs_VE (hr.mono (by decide)) (pk_cons (pv 0) pk_nil) rfl) (pa_cons (My.pe_gcK G_ParseError My.bs_VE (hr.mono (by decide)) (pk_cons (pv 0) pk_nil) rfl) pa_nil)))))
  (pss_cons (ps_set (i := 1) sc_law_named.nd rfl (Or.inl rfl) (pe_op op_cat (pv 1) (pe_lst (pa_cons (My.pe_gc0 G_InvalidCommand My.bs_VE (hr.mono (by decide)) rfl) (pa_cons (My.pe_gcK G_NothingToUndo My.bs_RE (hr.mono (by decide)) (pk_cons (pv 0) pk_nil) rfl) pa_nil)))))
  (pss_cons (ps_set (i := 1) sc_law_named.nd rfl (Or.inl rfl) (pe_op op_cat (pv 1) (pe_lst (pa_cons (My.pe_gcK G_NothingToRedo My.bs_RE (hr.mono (by decide)) (pk_cons (pv 0) pk_nil) rfl) (pa_cons (My.pe_gcK G_StillNeeded My.bs_RE (hr.mono (by decide)) (pk_cons (pv 0) pk_nil) rfl) pa_nil)))))
  (pss_one (ps_ret (pv 1))))))))))))))))))))))), ?_⟩
    refine My.x_start (σ := [some v, none]) rfl ?_
    try dsimp only [cxOf, Cx.nox]
    walk_at "go"
    intro R0 hR0
    have k1 := My.Same.new (o := .lst []) (Same.refl H) hR0
    generalize hH : upd H R0 (.lst []) = H1 at k1 ⊢
    have gR0 : H1 R0 = some (.lst []) := by rw [← hH]; exact upd_same
    have S := k1
    clear hH k1 hR0
    have X : Xs H1 [] := fun t ht => nomatch ht
    walk_at "go"
    refine (My.gx1 fun a0 H2 ha0 k2 x0 => ?_).toK rfl
    replace S := S.trans k2
    replace gR0 := k2 _ _ gR0
    replace X := (X.same k2).snoc x0
    clear k2 x0 ha0
    walk_at "go"
    refine (My.gx1 fun a1 H3 ha1 k3 x1 => ?_).toK rfl
    replace S := S.trans k3
    replace gR0 := k3 _ _ gR0
    replace X := (X.same k3).snoc x1
    clear k3 x1 ha1
    walk_at "go"
    intro P hP
    have k4 := My.Same.new (o := .lst [V.ref a0, V.ref a1]) (Same.refl H3) hP
    generalize hH : upd H3 P (.lst [V.ref a0, V.ref a1]) = H4 at k4 ⊢
    have gP : H4 P = some (.lst [V.ref a0, V.ref a1]) := by rw [← hH]; exact upd_same
    replace S := S.trans k4
    replace gR0 := k4 _ _ gR0
    replace X := X.same k4
    clear hH k4 hP
    walk_at "go"
    refine My.x_cat gR0 gP (Nat.le_of_ble_eq_true rfl) fun R1 hR1 => ?_
    have k5 := My.Same.new (o := .lst ([] ++ [V.ref a0, V.ref a1])) (Same.refl H4) hR1
    generalize hH : upd H4 R1 (.lst ([] ++ [V.ref a0, V.ref a1])) = H5 at k5 ⊢
    have gR1 : H5 R1 = some (.lst [V.ref a0, V.ref a1]) := by rw [← hH]; exact upd_same
    replace S := S.trans k5
    replace X := X.same k5
    clear hH k5 hR1 gR0 gP
    walk_at "go"
    refine My.gx0 fun a2 H6 ha2 k6 x2 => ?_
    replace S := S.trans k6
    replace gR1 := k6 _ _ gR1
    replace X := (X.same k6).snoc x2
    clear k6 x2 ha2
    walk_at "go"
    refine (My.gx1 fun a3 H7 ha3 k7 x3 => ?_).toK rfl
    replace S := S.trans k7
    replace gR1 := k7 _ _ gR1
    replace X := (X.same k7).snoc x3
    clear k7 x3 ha3
    walk_at "go"
    intro P hP
    have k8 := My.Same.new (o := .lst [V.ref a2, V.ref a3]) (Same.refl H7) hP
    generalize hH : upd H7 P (.lst [V.ref a2, V.ref a3]) = H8 at k8 ⊢
    have gP : H8 P = some (.lst [V.ref a2, V.ref a3]) := by rw [← hH]; exact upd_same
    replace S := S.trans k8
    replace gR1 := k8 _ _ gR1
    replace X := X.same k8
    clear hH k8 hP
    walk_at "go"
    refine My.x_cat gR1 gP (Nat.le_of_ble_eq_true rfl) fun R2 hR2 => ?_
    have k9 := My.Same.new (o := .lst ([V.ref a0, V.ref a1] ++ [V.ref a2, V.ref a3])) (Same.refl H8) hR2
    generalize hH : upd H8 R2 (.lst ([V.ref a0, V.ref a1] ++ [V.ref a2, V.ref a3])) = H9 at k9 ⊢
    have gR2 : H9 R2 = some (.lst [V.ref a0, V.ref a1, V.ref a2, V.ref a3]) := by rw [← hH]; exact upd_same
    replace S := S.trans k9
    replace X := X.same k9
    clear hH k9 hR2 gR1 gP
    walk_at "go"
    refine (My.gx1 fun a4 H10 ha4 k10 x4 => ?_).toK rfl
    replace S := S.trans k10
    replace gR2 := k10 _ _ gR2
    replace X := (X.same k10).snoc x4
    clear k10 x4 ha4
    walk_at "go"
    refine (My.gx1 fun a5 H11 ha5 k11 x5 => ?_).toK rfl
    replace S := S.trans k11
    replace gR2 := k11 _ _ gR2
    replace X := (X.same k11).snoc x5
    clear k11 x5 ha5
    walk_at "go"
    intro P hP
    have k12 := My.Same.new (o := .lst [V.ref a4, V.ref a5]) (Same.refl H11) hP
    generalize hH : upd H11 P (.lst [V.ref a4, V.ref a5]) = H12 at k12 ⊢
    have gP : H12 P = some (.lst [V.ref a4, V.ref a5]) := by rw [← hH]; exact upd_same
    replace S := S.trans k12
    replace gR2 := k12 _ _ gR2
    replace X := X.same k12
    clear hH k12 hP
    walk_at "go"
    refine My.x_cat gR2 gP (Nat.le_of_ble_eq_true rfl) fun R3 hR3 => ?_
    have k13 := My.Same.new (o := .lst ([V.ref a0, V.ref a1, V.ref a2, V.ref a3] ++ [V.ref a4, V.ref a5])) (Same.refl H12) hR3
    generalize hH : upd H12 R3 (.lst ([V.ref a0, V.ref a1, V.ref a2, V.ref a3] ++ [V.ref a4, V.ref a5])) = H13 at k13 ⊢
    have gR3 : H13 R3 = some (.lst [V.ref a0, V.ref a1, V.ref a2, V.ref a3, V.ref a4, V.ref a5]) := by rw [← hH]; exact upd_same
    replace S := S.trans k13
    replace X := X.same k13
    clear hH k13 hR3 gR2 gP
    walk_at "go"
    refine (My.gx1 fun a6 H14 ha6 k14 x6 => ?_).toK rfl
    replace S := S.trans k14
    replace gR3 := k14 _ _ gR3
    replace X := (X.same k14).snoc x6
    clear k14 x6 ha6
    walk_at "go"
    refine (My.gx1 fun a7 H15 ha7 k15 x7 => ?_).toK rfl
    replace S := S.trans k15
    replace gR3 := k15 _ _ gR3
    replace X := (X.same k15).snoc x7
    clear k15 x7 ha7
    walk_at "go"
    intro P hP
    have k16 := My.Same.new (o := .lst [V.ref a6, V.ref a7]) (Same.refl H15) hP
    generalize hH : upd H15 P (.lst [V.ref a6, V.ref a7]) = H16 at k16 ⊢
    have gP : H16 P = some (.lst [V.ref a6, V.ref a7]) := by rw [← hH]; exact upd_same
    replace S := S.trans k16
    replace gR3 := k16 _ _ gR3
    replace X := X.same k16
    clear hH k16 hP
    walk_at "go"
    refine My.x_cat gR3 gP (Nat.le_of_ble_eq_true rfl) fun R4 hR4 => ?_
    have k17 := My.Same.new (o := .lst ([V.ref a0, V.ref a1, V.ref a2, V.ref a3, V.ref a4, V.ref a5] ++ [V.ref a6, V.ref a7])) (Same.refl H16) hR4
    generalize hH : upd H16 R4 (.lst ([V.ref a0, V.ref a1, V.ref a2, V.ref a3, V.ref a4, V.ref a5] ++ [V.ref a6, V.ref a7])) = H17 at k17 ⊢
    have gR4 : H17 R4 = some (.lst [V.ref a0, V.ref a1, V.ref a2, V.ref a3, V.ref a4, V.ref a5, V.ref a6, V.ref a7]) := by rw [← hH]; exact upd_same
    replace S := S.trans k17
    replace X := X.same k17
    clear hH k17 hR4 gR3 gP
    walk_at "go"
    refine (My.gx1 fun a8 H18 ha8 k18 x8 => ?_).toK rfl
    replace S := S.trans k18
    replace gR4 := k18 _ _ gR4
    replace X := (X.same k18).snoc x8
    clear k18 x8 ha8
    walk_at "go"
    refine (My.gx1 fun a9 H19 ha9 k19 x9 => ?_).toK rfl
    replace S := S.trans k19
    replace gR4 := k19 _ _ gR4
    replace X := (X.same k19).snoc x9
    clear k19 x9 ha9
    walk_at "go"
    intro P hP
    have k20 := My.Same.new (o := .lst [V.ref a8, V.ref a9]) (Same.refl H19) hP
    generalize hH : upd H19 P (.lst [V.ref a8, V.ref a9]) = H20 at k20 ⊢
    have gP : H20 P = some (.lst [V.ref a8, V.ref a9]) := by rw [← hH]; exact upd_same
    replace S := S.trans k20
    replace gR4 := k20 _ _ gR4
    replace X := X.same k20
    clear hH k20 hP
    walk_at "go"
    refine My.x_cat gR4 gP (Nat.le_of_ble_eq_true rfl) fun R5 hR5 => ?_
    have k21 := My.Same.new (o := .lst ([V.ref a0, V.ref a1, V.ref a2, V.ref a3, V.ref a4, V.ref a5, V.ref a6, V.ref a7] ++ [V.ref a8, V.ref a9])) (Same.refl H20) hR5
    generalize hH : upd H20 R5 (.lst ([V.ref a0, V.ref a1, V.ref a2, V.ref a3, V.ref a4, V.ref a5, V.ref a6, V.ref a7] ++ [V.ref a8, V.ref a9])) = H21 at k21 ⊢
    have gR5 : H21 R5 = some (.lst [V.ref a0, V.ref a1, V.ref a2, V.ref a3, V.ref a4, V.ref a5, V.ref a6, V.ref a7, V.ref a8, V.ref a9]) := by rw [← hH]; exact upd_same
    replace S := S.trans k21
    replace X := X.same k21
    clear hH k21 hR5 gR4 gP
    walk_at "go"
    refine (My.gx1 fun a10 H22 ha10 k22 x10 => ?_).toK rfl
    replace S := S.trans k22
    replace gR5 := k22 _ _ gR5
    replace X := (X.same k22).snoc x10
    clear k22 x10 ha10
    walk_at "go"
    refine (My.gx1 fun a11 H23 ha11 k23 x11 => ?_).toK rfl
    replace S := S.trans k23
    replace gR5 := k23 _ _ gR5
    replace X := (X.same k23).snoc x11
    clear k23 x11 ha11
    walk_at "go"
    intro P hP
    have k24 := My.Same.new (o := .lst [V.ref a10, V.ref a11]) (Same.refl H23) hP
    generalize hH : upd H23 P (.lst [V.ref a10, V.ref a11]) = H24 at k24 ⊢
    have gP : H24 P = some (.lst [V.ref a10, V.ref a11]) := by rw [← hH]; exact upd_same
    replace S := S.trans k24
    replace gR5 := k24 _ _ gR5
    replace X := X.same k24
    clear hH k24 hP
    walk_at "go"
    refine My.x_cat gR5 gP (Nat.le_of_ble_eq_true rfl) fun R6 hR6 => ?_
    have k25 := My.Same.new (o := .lst ([V.ref a0, V.ref a1, V.ref a2, V.ref a3, V.ref a4, V.ref a5, V.ref a6, V.ref a7, V.ref a8, V.ref a9] ++ [V.ref a10, V.ref a11])) (Same.refl H24) hR6
    generalize hH : upd H24 R6 (.lst ([V.ref a0, V.ref a1, V.ref a2, V.ref a3, V.ref a4, V.ref a5, V.ref a6, V.ref a7, V.ref a8, V.ref a9] ++ [V.ref a10, V.ref a11])) = H25 at k25 ⊢
    have gR6 : H25 R6 = some (.lst [V.ref a0, V.ref a1, V.ref a2, V.ref a3, V.ref a4, V.ref a5, V.ref a6, V.ref a7, V.ref a8, V.ref a9, V.ref a10, V.ref a11]) := by rw [← hH]; exact upd_same
    replace S := S.trans k25
    replace X := X.same k25
    clear hH k25 hR6 gR5 gP
    walk_at "go"
    refine (My.gx1 fun a12 H26 ha12 k26 x12 => ?_).toK rfl
    replace S := S.trans k26
    replace gR6 := k26 _ _ gR6
    replace X := (X.same k26).snoc x12
    clear k26 x12 ha12
    walk_at "go"
    refine (My.gx1 fun a13 H27 ha13 k27 x13 => ?_).toK rfl
    replace S := S.trans k27
    replace gR6 := k27 _ _ gR6
    replace X := (X.same k27).snoc x13
    clear k27 x13 ha13
    walk_at "go"
    intro P hP
    have k28 := My.Same.new (o := .lst [V.ref a12, V.ref a13]) (Same.refl H27) hP
    generalize hH : upd H27 P (.lst [V.ref a12, V.ref a13]) = H28 at k28 ⊢
    have gP : H28 P = some (.lst [V.ref a12, V.ref a13]) := by rw [← hH]; exact upd_same
    replace S := S.trans k28
    replace gR6 := k28 _ _ gR6
    replace X := X.same k28
    clear hH k28 hP
    walk_at "go"
    refine My.x_cat gR6 gP (Nat.le_of_ble_eq_true rfl) fun R7 hR7 => ?_
    have k29 := My.Same.new (o := .lst ([V.ref a0, V.ref a1, V.ref a2, V.ref a3, V.ref a4, V.ref a5, V.ref a6, V.ref a7, V.ref a8, V.ref a9, V.ref a10, V.ref a11] ++ [V.ref a12, V.ref a13])) (Same.refl H28) hR7
    generalize hH : upd H28 R7 (.lst ([V.ref a0, V.ref a1, V.ref a2, V.ref a3, V.ref a4, V.ref a5, V.ref a6, V.ref a7, V.ref a8, V.ref a9, V.ref a10, V.ref a11] ++ [V.ref a12, V.ref a13])) = H29 at k29 ⊢
    have gR7 : H29 R7 = some (.lst [V.ref a0, V.ref a1, V.ref a2, V.ref a3, V.ref a4, V.ref a5, V.ref a6, V.ref a7, V.ref a8, V.ref a9, V.ref a10, V.ref a11, V.ref a12, V.ref a13]) := by rw [← hH]; exact upd_same
    replace S := S.trans k29
    replace X := X.same k29
    clear hH k29 hR7 gR6 gP
    walk_at "go"
    refine (My.gx1 fun a14 H30 ha14 k30 x14 => ?_).toK rfl
    replace S := S.trans k30
    replace gR7 := k30 _ _ gR7
    replace X := (X.same k30).snoc x14
    clear k30 x14 ha14
    walk_at "go"
    refine My.gx0 fun a15 H31 ha15 k31 x15 => ?_
    replace S := S.trans k31
    replace gR7 := k31 _ _ gR7
    replace X := (X.same k31).snoc x15
    clear k31 x15 ha15
    walk_at "go"
    intro P hP
    have k32 := My.Same.new (o := .lst [V.ref a14, V.ref a15]) (Same.refl H31) hP
    generalize hH : upd H31 P (.lst [V.ref a14, V.ref a15]) = H32 at k32 ⊢
    have gP : H32 P = some (.lst [V.ref a14, V.ref a15]) := by rw [← hH]; exact upd_same
    replace S := S.trans k32
    replace gR7 := k32 _ _ gR7
    replace X := X.same k32
    clear hH k32 hP
    walk_at "go"
    refine My.x_cat gR7 gP (Nat.le_of_ble_eq_true rfl) fun R8 hR8 => ?_
    have k33 := My.Same.new (o := .lst ([V.ref a0, V.ref a1, V.ref a2, V.ref a3, V.ref a4, V.ref a5, V.ref a6, V.ref a7, V.ref a8, V.ref a9, V.ref a10, V.ref a11, V.ref a12, V.ref a13] ++ [V.ref a14, V.ref a15])) (Same.refl H32) hR8
    generalize hH : upd H32 R8 (.lst ([V.ref a0, V.ref a1, V.ref a2, V.ref a3, V.ref a4, V.ref a5, V.ref a6, V.ref a7, V.ref a8, V.ref a9, V.ref a10, V.ref a11, V.ref a12, V.ref a13] ++ [V.ref a14, V.ref a15])) = H33 at k33 ⊢
    have gR8 : H33 R8 = some (.lst [V.ref a0, V.ref a1, V.ref a2, V.ref a3, V.ref a4, V.ref a5, V.ref a6, V.ref a7, V.ref a8, V.ref a9, V.ref a10, V.ref a11, V.ref a12, V.ref a13, V.ref a14, V.ref a15]) := by rw [← hH]; exact upd_same
    replace S := S.trans k33
    replace X := X.same k33
    clear hH k33 hR8 gR7 gP
    walk_at "go"
    refine My.gx0 fun a16 H34 ha16 k34 x16 => ?_
    replace S := S.trans k34
    replace gR8 := k34 _ _ gR8
    replace X := (X.same k34).snoc x16
    clear k34 x16 ha16
    walk_at "go"
    refine My.gx0 fun a17 H35 ha17 k35 x17 => ?_
    replace S := S.trans k35
    replace gR8 := k35 _ _ gR8
    replace X := (X.same k35).snoc x17
    clear k35 x17 ha17
    walk_at "go"
    intro P hP
    have k36 := My.Same.new (o := .lst [V.ref a16, V.ref a17]) (Same.refl H35) hP
    generalize hH : upd H35 P (.lst [V.ref a16, V.ref a17]) = H36 at k36 ⊢
    have gP : H36 P = some (.lst [V.ref a16, V.ref a17]) := by rw [← hH]; exact upd_same
    replace S := S.trans k36
    replace gR8 := k36 _ _ gR8
    replace X := X.same k36
    clear hH k36 hP
    walk_at "go"
    refine My.x_cat gR8 gP (Nat.le_of_ble_eq_true rfl) fun R9 hR9 => ?_
    have k37 := My.Same.new (o := .lst ([V.ref a0, V.ref a1, V.ref a2, V.ref a3, V.ref a4, V.ref a5, V.ref a6, V.ref a7, V.ref a8, V.ref a9, V.ref a10, V.ref a11, V.ref a12, V.ref a13, V.ref a14, V.ref a15] ++ [V.ref a16, V.ref a17])) (Same.refl H36) hR9
    generalize hH : upd H36 R9 (.lst ([V.ref a0, V.ref a1, V.ref a2, V.ref a3, V.ref a4, V.ref a5, V.ref a6, V.ref a7, V.ref a8, V.ref a9, V.ref a10, V.ref a11, V.ref a12, V.ref a13, V.ref a14, V.ref a15] ++ [V.ref a16, V.ref a17])) = H37 at k37 ⊢
    have gR9 : H37 R9 = some (.lst [V.ref a0, V.ref a1, V.ref a2, V.ref a3, V.ref a4, V.ref a5, V.ref a6, V.ref a7, V.ref a8, V.ref a9, V.ref a10, V.ref a11, V.ref a12, V.ref a13, V.ref a14, V.ref a15, V.ref a16, V.ref a17]) := by rw [← hH]; exact upd_same
    replace S := S.trans k37
    replace X := X.same k37
    clear hH k37 hR9 gR8 gP
    walk_at "go"
    refine (My.gx2 fun a18 H38 ha18 k38 x18 => ?_).toK rfl
    replace S := S.trans k38
    replace gR9 := k38 _ _ gR9
    replace X := (X.same k38).snoc x18
    clear k38 x18 ha18
    walk_at "go"
    refine My.gx0 fun a19 H39 ha19 k39 x19 => ?_
    replace S := S.trans k39
    replace gR9 := k39 _ _ gR9
    replace X := (X.same k39).snoc x19
    clear k39 x19 ha19
    walk_at "go"
    intro P hP
    have k40 := My.Same.new (o := .lst [V.ref a18, V.ref a19]) (Same.refl H39) hP
    generalize hH : upd H39 P (.lst [V.ref a18, V.ref a19]) = H40 at k40 ⊢
    have gP : H40 P = some (.lst [V.ref a18, V.ref a19]) := by rw [← hH]; exact upd_same
    replace S := S.trans k40
    replace gR9 := k40 _ _ gR9
    replace X := X.same k40
    clear hH k40 hP
    walk_at "go"
    refine My.x_cat gR9 gP (Nat.le_of_ble_eq_true rfl) fun R10 hR10 => ?_
    have k41 := My.Same.new (o := .lst ([V.ref a0, V.ref a1, V.ref a2, V.ref a3, V.ref a4, V.ref a5, V.ref a6, V.ref a7, V.ref a8, V.ref a9, V.ref a10, V.ref a11, V.ref a12, V.ref a13, V.ref a14, V.ref a15, V.ref a16, V.ref a17] ++ [V.ref a18, V.ref a19])) (Same.refl H40) hR10
    generalize hH : upd H40 R10 (.lst ([V.ref a0, V.ref a1, V.ref a2, V.ref a3, V.ref a4, V.ref a5, V.ref a6, V.ref a7, V.ref a8, V.ref a9, V.ref a10, V.ref a11, V.ref a12, V.ref a13, V.ref a14, V.ref a15, V.ref a16, V.ref a17] ++ [V.ref a18, V.ref a19])) = H41 at k41 ⊢
    have gR10 : H41 R10 = some (.lst [V.ref a0, V.ref a1, V.ref a2, V.ref a3, V.ref a4, V.ref a5, V.ref a6, V.ref a7, V.ref a8, V.ref a9, V.ref a10, V.ref a11, V.ref a12, V.ref a13, V.ref a14, V.ref a15, V.ref a16, V.ref a17, V.ref a18, V.ref a19]) := by rw [← hH]; exact upd_same
    replace S := S.trans k41
    replace X := X.same k41
    clear hH k41 hR10 gR9 gP
    walk_at "go"
    refine (My.gx1 fun a20 H42 ha20 k42 x20 => ?_).toK rfl
    replace S := S.trans k42
    replace gR10 := k42 _ _ gR10
    replace X := (X.same k42).snoc x20
    clear k42 x20 ha20
    walk_at "go"
    refine (My.gx1 fun a21 H43 ha21 k43 x21 => ?_).toK rfl
    replace S := S.trans k43
    replace gR10 := k43 _ _ gR10
    replace X := (X.same k43).snoc x21
    clear k43 x21 ha21
    walk_at "go"
    intro P hP
    have k44 := My.Same.new (o := .lst [V.ref a20, V.ref a21]) (Same.refl H43) hP
    generalize hH : upd H43 P (.lst [V.ref a20, V.ref a21]) = H44 at k44 ⊢
    have gP : H44 P = some (.lst [V.ref a20, V.ref a21]) := by rw [← hH]; exact upd_same
    replace S := S.trans k44
    replace gR10 := k44 _ _ gR10
    replace X := X.same k44
    clear hH k44 hP
    walk_at "go"
    refine My.x_cat gR10 gP (Nat.le_of_ble_eq_true rfl) fun R11 hR11 => ?_
    have k45 := My.Same.new (o := .lst ([V.ref a0, V.ref a1, V.ref a2, V.ref a3, V.ref a4, V.ref a5, V.ref a6, V.ref a7, V.ref a8, V.ref a9, V.ref a10, V.ref a11, V.ref a12, V.ref a13, V.ref a14, V.ref a15, V.ref a16, V.ref a17, V.ref a18, V.ref a19] ++ [V.ref a20, V.ref a21])) (Same.refl H44) hR11
    generalize hH : upd H44 R11 (.lst ([V.ref a0, V.ref a1, V.ref a2, V.ref a3, V.ref a4, V.ref a5, V.ref a6, V.ref a7, V.ref a8, V.ref a9, V.ref a10, V.ref a11, V.ref a12, V.ref a13, V.ref a14, V.ref a15, V.ref a16, V.ref a17, V.ref a18, V.ref a19] ++ [V.ref a20, V.ref a21])) = H45 at k45 ⊢
    have gR11 : H45 R11 = some (.lst [V.ref a0, V.ref a1, V.ref a2, V.ref a3, V.ref a4, V.ref a5, V.ref a6, V.ref a7, V.ref a8, V.ref a9, V.ref a10, V.ref a11, V.ref a12, V.ref a13, V.ref a14, V.ref a15, V.ref a16, V.ref a17, V.ref a18, V.ref a19, V.ref a20, V.ref a21]) := by rw [← hH]; exact upd_same
    replace S := S.trans k45
    replace X := X.same k45
    clear hH k45 hR11 gR10 gP
    walk_at "go"
    refine (My.gx1 fun a22 H46 ha22 k46 x22 => ?_).toK rfl
    replace S := S.trans k46
    replace gR11 := k46 _ _ gR11
    replace X := (X.same k46).snoc x22
    clear k46 x22 ha22
    walk_at "go"
    refine (My.gx1 fun a23 H47 ha23 k47 x23 => ?_).toK rfl
    replace S := S.trans k47
    replace gR11 := k47 _ _ gR11
    replace X := (X.same k47).snoc x23
    clear k47 x23 ha23
    walk_at "go"
    intro P hP
    have k48 := My.Same.new (o := .lst [V.ref a22, V.ref a23]) (Same.refl H47) hP
    generalize hH : upd H47 P (.lst [V.ref a22, V.ref a23]) = H48 at k48 ⊢
    have gP : H48 P = some (.lst [V.ref a22, V.ref a23]) := by rw [← hH]; exact upd_same
    replace S := S.trans k48
    replace gR11 := k48 _ _ gR11
    replace X := X.same k48
    clear hH k48 hP
    walk_at "go"
    refine My.x_cat gR11 gP (Nat.le_of_ble_eq_true rfl) fun R12 hR12 => ?_
    have k49 := My.Same.new (o := .lst ([V.ref a0, V.ref a1, V.ref a2, V.ref a3, V.ref a4, V.ref a5, V.ref a6, V.ref a7, V.ref a8, V.ref a9, V.ref a10, V.ref a11, V.ref a12, V.ref a13, V.ref a14, V.ref a15, V.ref a16, V.ref a17, V.ref a18, V.ref a19, V.ref a20, V.ref a21] ++ [V.ref a22, V.ref a23])) (Same.refl H48) hR12
    generalize hH : upd H48 R12 (.lst ([V.ref a0, V.ref a1, V.ref a2, V.ref a3, V.ref a4, V.ref a5, V.ref a6, V.ref a7, V.ref a8, V.ref a9, V.ref a10, V.ref a11, V.ref a12, V.ref a13, V.ref a14, V.ref a15, V.ref a16, V.ref a17, V.ref a18, V.ref a19, V.ref a20, V.ref a21] ++ [V.ref a22, V.ref a23])) = H49 at k49 ⊢
    have gR12 : H49 R12 = some (.lst [V.ref a0, V.ref a1, V.ref a2, V.ref a3, V.ref a4, V.ref a5, V.ref a6, V.ref a7, V.ref a8, V.ref a9, V.ref a10, V.ref a11, V.ref a12, V.ref a13, V.ref a14, V.ref a15, V.ref a16, V.ref a17, V.ref a18, V.ref a19, V.ref a20, V.ref a21, V.ref a22, V.ref a23]) := by rw [← hH]; exact upd_same
    replace S := S.trans k49
    replace X := X.same k49
    clear hH k49 hR12 gR11 gP
    walk_at "go"
    refine (My.gx1 fun a24 H50 ha24 k50 x24 => ?_).toK rfl
    replace S := S.trans k50
    replace gR12 := k50 _ _ gR12
    replace X := (X.same k50).snoc x24
    clear k50 x24 ha24
    walk_at "go"
    refine (My.gx1 fun a25 H51 ha25 k51 x25 => ?_).toK rfl
    replace S := S.trans k51
    replace gR12 := k51 _ _ gR12
    replace X := (X.same k51).snoc x25
    clear k51 x25 ha25
    walk_at "go"
    intro P hP
    have k52 := My.Same.new (o := .lst [V.ref a24, V.ref a25]) (Same.refl H51) hP
    generalize hH : upd H51 P (.lst [V.ref a24, V.ref a25]) = H52 at k52 ⊢
    have gP : H52 P = some (.lst [V.ref a24, V.ref a25]) := by rw [← hH]; exact upd_same
    replace S := S.trans k52
    replace gR12 := k52 _ _ gR12
    replace X := X.same k52
    clear hH k52 hP
    walk_at "go"
    refine My.x_cat gR12 gP (Nat.le_of_ble_eq_true rfl) fun R13 hR13 => ?_
    have k53 := My.Same.new (o := .lst ([V.ref a0, V.ref a1, V.ref a2, V.ref a3, V.ref a4, V.ref a5, V.ref a6, V.ref a7, V.ref a8, V.ref a9, V.ref a10, V.ref a11, V.ref a12, V.ref a13, V.ref a14, V.ref a15, V.ref a16, V.ref a17, V.ref a18, V.ref a19, V.ref a20, V.ref a21, V.ref a22, V.ref a23] ++ [V.ref a24, V.ref a25])) (Same.refl H52) hR13
    generalize hH : upd H52 R13 (.lst ([V.ref a0, V.ref a1, V.ref a2, V.ref a3, V.ref a4, V.ref a5, V.ref a6, V.ref a7, V.ref a8, V.ref a9, V.ref a10, V.ref a11, V.ref a12, V.ref a13, V.ref a14, V.ref a15, V.ref a16, V.ref a17, V.ref a18, V.ref a19, V.ref a20, V.ref a21, V.ref a22, V.ref a23] ++ [V.ref a24, V.ref a25])) = H53 at k53 ⊢
    have gR13 : H53 R13 = some (.lst [V.ref a0, V.ref a1, V.ref a2, V.ref a3, V.ref a4, V.ref a5, V.ref a6, V.ref a7, V.ref a8, V.ref a9, V.ref a10, V.ref a11, V.ref a12, V.ref a13, V.ref a14, V.ref a15, V.ref a16, V.ref a17, V.ref a18, V.ref a19, V.ref a20, V.ref a21, V.ref a22, V.ref a23, V.ref a24, V.ref a25]) := by rw [← hH]; exact upd_same
    replace S := S.trans k53
    replace X := X.same k53
    clear hH k53 hR13 gR12 gP
    walk_at "go"
    refine (My.gx1 fun a26 H54 ha26 k54 x26 => ?_).toK rfl
    replace S := S.trans k54
    replace gR13 := k54 _ _ gR13
    replace X := (X.same k54).snoc x26
    clear k54 x26 ha26
    walk_at "go"
    refine (My.gx1 fun a27 H55 ha27 k55 x27 => ?_).toK rfl
    replace S := S.trans k55
    replace gR13 := k55 _ _ gR13
    replace X := (X.same k55).snoc x27
    clear k55 x27 ha27
    walk_at "go"
    intro P hP
    have k56 := My.Same.new (o := .lst [V.ref a26, V.ref a27]) (Same.refl H55) hP
    generalize hH : upd H55 P (.lst [V.ref a26, V.ref a27]) = H56 at k56 ⊢
    have gP : H56 P = some (.lst [V.ref a26, V.ref a27]) := by rw [← hH]; exact upd_same
    replace S := S.trans k56
    replace gR13 := k56 _ _ gR13
    replace X := X.same k56
    clear hH k56 hP
    walk_at "go"
    refine My.x_cat gR13 gP (Nat.le_of_ble_eq_true rfl) fun R14 hR14 => ?_
    have k57 := My.Same.new (o := .lst ([V.ref a0, V.ref a1, V.ref a2, V.ref a3, V.ref a4, V.ref a5, V.ref a6, V.ref a7, V.ref a8, V.ref a9, V.ref a10, V.ref a11, V.ref a12, V.ref a13, V.ref a14, V.ref a15, V.ref a16, V.ref a17, V.ref a18, V.ref a19, V.ref a20, V.ref a21, V.ref a22, V.ref a23, V.ref a24, V.ref a25] ++ [V.ref a26, V.ref a27])) (Same.refl H56) hR14
    generalize hH : upd H56 R14 (.lst ([V.ref a0, V.ref a1, V.ref a2, V.ref a3, V.ref a4, V.ref a5, V.ref a6, V.ref a7, V.ref a8, V.ref a9, V.ref a10, V.ref a11, V.ref a12, V.ref a13, V.ref a14, V.ref a15, V.ref a16, V.ref a17, V.ref a18, V.ref a19, V.ref a20, V.ref a21, V.ref a22, V.ref a23, V.ref a24, V.ref a25] ++ [V.ref a26, V.ref a27])) = H57 at k57 ⊢
    have gR14 : H57 R14 = some (.lst [V.ref a0, V.ref a1, V.ref a2, V.ref a3, V.ref a4, V.ref a5, V.ref a6, V.ref a7, V.ref a8, V.ref a9, V.ref a10, V.ref a11, V.ref a12, V.ref a13, V.ref a14, V.ref a15, V.ref a16, V.ref a17, V.ref a18, V.ref a19, V.ref a20, V.ref a21, V.ref a22, V.ref a23, V.ref a24, V.ref a25, V.ref a26, V.ref a27]) := by rw [← hH]; exact upd_same
    replace S := S.trans k57
    replace X := X.same k57
    clear hH k57 hR14 gR13 gP
    walk_at "go"
    refine (My.gx1 fun a28 H58 ha28 k58 x28 => ?_).toK rfl
    replace S := S.trans k58
    replace gR14 := k58 _ _ gR14
    replace X := (X.same k58).snoc x28
    clear k58 x28 ha28
    walk_at "go"
    refine (My.gx1 fun a29 H59 ha29 k59 x29 => ?_).toK rfl
    replace S := S.trans k59
    replace gR14 := k59 _ _ gR14
    replace X := (X.same k59).snoc x29
    clear k59 x29 ha29
    walk_at "go"
    intro P hP
    have k60 := My.Same.new (o := .lst [V.ref a28, V.ref a29]) (Same.refl H59) hP
    generalize hH : upd H59 P (.lst [V.ref a28, V.ref a29]) = H60 at k60 ⊢
    have gP : H60 P = some (.lst [V.ref a28, V.ref a29]) := by rw [← hH]; exact upd_same
    replace S := S.trans k60
    replace gR14 := k60 _ _ gR14
    replace X := X.same k60
    clear hH k60 hP
    walk_at "go"
    refine My.x_cat gR14 gP (Nat.le_of_ble_eq_true rfl) fun R15 hR15 => ?_
    have k61 := My.Same.new (o := .lst ([V.ref a0, V.ref a1, V.ref a2, V.ref a3, V.ref a4, V.ref a5, V.ref a6, V.ref a7, V.ref a8, V.ref a9, V.ref a10, V.ref a11, V.ref a12, V.ref a13, V.ref a14, V.ref a15, V.ref a16, V.ref a17, V.ref a18, V.ref a19, V.ref a20, V.ref a21, V.ref a22, V.ref a23, V.ref a24, V.ref a25, V.ref a26, V.ref a27] ++ [V.ref a28, V.ref a29])) (Same.refl H60) hR15
    generalize hH : upd H60 R15 (.lst ([V.ref a0, V.ref a1, V.ref a2, V.ref a3, V.ref a4, V.ref a5, V.ref a6, V.ref a7, V.ref a8, V.ref a9, V.ref a10, V.ref a11, V.ref a12, V.ref a13, V.ref a14, V.ref a15, V.ref a16, V.ref a17, V.ref a18, V.ref a19, V.ref a20, V.ref a21, V.ref a22, V.ref a23, V.ref a24, V.ref a25, V.ref a26, V.ref a27] ++ [V.ref a28, V.ref a29])) = H61 at k61 ⊢
    have gR15 : H61 R15 = some (.lst [V.ref a0, V.ref a1, V.ref a2, V.ref a3, V.ref a4, V.ref a5, V.ref a6, V.ref a7, V.ref a8, V.ref a9, V.ref a10, V.ref a11, V.ref a12, V.ref a13, V.ref a14, V.ref a15, V.ref a16, V.ref a17, V.ref a18, V.ref a19, V.ref a20, V.ref a21, V.ref a22, V.ref a23, V.ref a24, V.ref a25, V.ref a26, V.ref a27, V.ref a28, V.ref a29]) := by rw [← hH]; exact upd_same
    replace S := S.trans k61
    replace X := X.same k61
    clear hH k61 hR15 gR14 gP
    walk_at "go"
    refine (My.gx1 fun a30 H62 ha30 k62 x30 => ?_).toK rfl
    replace S := S.trans k62
    replace gR15 := k62 _ _ gR15
    replace X := (X.same k62).snoc x30
    clear k62 x30 ha30
    walk_at "go"
    refine (My.gx1 fun a31 H63 ha31 k63 x31 => ?_).toK rfl
    replace S := S.trans k63
    replace gR15 := k63 _ _ gR15
    replace X := (X.same k63).snoc x31
    clear k63 x31 ha31
    walk_at "go"
    intro P hP
    have k64 := My.Same.new (o := .lst [V.ref a30, V.ref a31]) (Same.refl H63) hP
    generalize hH : upd H63 P (.lst [V.ref a30, V.ref a31]) = H64 at k64 ⊢
    have gP : H64 P = some (.lst [V.ref a30, V.ref a31]) := by rw [← hH]; exact upd_same
    replace S := S.trans k64
    replace gR15 := k64 _ _ gR15
    replace X := X.same k64
    clear hH k64 hP
    walk_at "go"
    refine My.x_cat gR15 gP (Nat.le_of_ble_eq_true rfl) fun R16 hR16 => ?_
    have k65 := My.Same.new (o := .lst ([V.ref a0, V.ref a1, V.ref a2, V.ref a3, V.ref a4, V.ref a5, V.ref a6, V.ref a7, V.ref a8, V.ref a9, V.ref a10, V.ref a11, V.ref a12, V.ref a13, V.ref a14, V.ref a15, V.ref a16, V.ref a17, V.ref a18, V.ref a19, V.ref a20, V.ref a21, V.ref a22, V.ref a23, V.ref a24, V.ref a25, V.ref a26, V.ref a27, V.ref a28, V.ref a29] ++ [V.ref a30, V.ref a31])) (Same.refl H64) hR16
    generalize hH : upd H64 R16 (.lst ([V.ref a0, V.ref a1, V.ref a2, V.ref a3, V.ref a4, V.ref a5, V.ref a6, V.ref a7, V.ref a8, V.ref a9, V.ref a10, V.ref a11, V.ref a12, V.ref a13, V.ref a14, V.ref a15, V.ref a16, V.ref a17, V.ref a18, V.ref a19, V.ref a20, V.ref a21, V.ref a22, V.ref a23, V.ref a24, V.ref a25, V.ref a26, V.ref a27, V.ref a28, V.ref a29] ++ [V.ref a30, V.ref a31])) = H65 at k65 ⊢
    have gR16 : H65 R16 = some (.lst [V.ref a0, V.ref a1, V.ref a2, V.ref a3, V.ref a4, V.ref a5, V.ref a6, V.ref a7, V.ref a8, V.ref a9, V.ref a10, V.ref a11, V.ref a12, V.ref a13, V.ref a14, V.ref a15, V.ref a16, V.ref a17, V.ref a18, V.ref a19, V.ref a20, V.ref a21, V.ref a22, V.ref a23, V.ref a24, V.ref a25, V.ref a26, V.ref a27, V.ref a28, V.ref a29, V.ref a30, V.ref a31]) := by rw [← hH]; exact upd_same
    replace S := S.trans k65
    replace X := X.same k65
    clear hH k65 hR16 gR15 gP
    walk_at "go"
    refine My.gx0 fun a32 H66 ha32 k66 x32 => ?_
    replace S := S.trans k66
    replace gR16 := k66 _ _ gR16
    replace X := (X.same k66).snoc x32
    clear k66 x32 ha32
    walk_at "go"
    refine (My.gx1 fun a33 H67 ha33 k67 x33 => ?_).toK rfl
    replace S := S.trans k67
    replace gR16 := k67 _ _ gR16
    replace X := (X.same k67).snoc x33
    clear k67 x33 ha33
    walk_at "go"
    intro P hP
    have k68 := My.Same.new (o := .lst [V.ref a32, V.ref a33]) (Same.refl H67) hP
    generalize hH : upd H67 P (.lst [V.ref a32, V.ref a33]) = H68 at k68 ⊢
    have gP : H68 P = some (.lst [V.ref a32, V.ref a33]) := by rw [← hH]; exact upd_same
    replace S := S.trans k68
    replace gR16 := k68 _ _ gR16
    replace X := X.same k68
    clear hH k68 hP
    walk_at "go"
    refine My.x_cat gR16 gP (Nat.le_of_ble_eq_true rfl) fun R17 hR17 => ?_
    have k69 := My.Same.new (o := .lst ([V.ref a0, V.ref a1, V.ref a2, V.ref a3, V.ref a4, V.ref a5, V.ref a6, V.ref a7, V.ref a8, V.ref a9, V.ref a10, V.ref a11, V.ref a12, V.ref a13, V.ref a14, V.ref a15, V.ref a16, V.ref a17, V.ref a18, V.ref a19, V.ref a20, V.ref a21, V.ref a22, V.ref a23, V.ref a24, V.ref a25, V.ref a26, V.ref a27, V.ref a28, V.ref a29, V.ref a30, V.ref a31] ++ [V.ref a32, V.ref a33])) (Same.refl H68) hR17
    generalize hH : upd H68 R17 (.lst ([V.ref a0, V.ref a1, V.ref a2, V.ref a3, V.ref a4, V.ref a5, V.ref a6, V.ref a7, V.ref a8, V.ref a9, V.ref a10, V.ref a11, V.ref a12, V.ref a13, V.ref a14, V.ref a15, V.ref a16, V.ref a17, V.ref a18, V.ref a19, V.ref a20, V.ref a21, V.ref a22, V.ref a23, V.ref a24, V.ref a25, V.ref a26, V.ref a27, V.ref a28, V.ref a29, V.ref a30, V.ref a31] ++ [V.ref a32, V.ref a33])) = H69 at k69 ⊢
    have gR17 : H69 R17 = some (.lst [V.ref a0, V.ref a1, V.ref a2, V.ref a3, V.ref a4, V.ref a5, V.ref a6, V.ref a7, V.ref a8, V.ref a9, V.ref a10, V.ref a11, V.ref a12, V.ref a13, V.ref a14, V.ref a15, V.ref a16, V.ref a17, V.ref a18, V.ref a19, V.ref a20, V.ref a21, V.ref a22, V.ref a23, V.ref a24, V.ref a25, V.ref a26, V.ref a27, V.ref a28, V.ref a29, V.ref a30, V.ref a31, V.ref a32, V.ref a33]) := by rw [← hH]; exact upd_same
    replace S := S.trans k69
    replace X := X.same k69
    clear hH k69 hR17 gR16 gP
    walk_at "go"
    refine (My.gx1 fun a34 H70 ha34 k70 x34 => ?_).toK rfl
    replace S := S.trans k70
    replace gR17 := k70 _ _ gR17
    replace X := (X.same k70).snoc x34
    clear k70 x34 ha34
    walk_at "go"
    refine (My.gx1 fun a35 H71 ha35 k71 x35 => ?_).toK rfl
    replace S := S.trans k71
    replace gR17 := k71 _ _ gR17
    replace X := (X.same k71).snoc x35
    clear k71 x35 ha35
    walk_at "go"
    intro P hP
    have k72 := My.Same.new (o := .lst [V.ref a34, V.ref a35]) (Same.refl H71) hP
    generalize hH : upd H71 P (.lst [V.ref a34, V.ref a35]) = H72 at k72 ⊢
    have gP : H72 P = some (.lst [V.ref a34, V.ref a35]) := by rw [← hH]; exact upd_same
    replace S := S.trans k72
    replace gR17 := k72 _ _ gR17
    replace X := X.same k72
    clear hH k72 hP
    walk_at "go"
    refine My.x_cat gR17 gP (Nat.le_of_ble_eq_true rfl) fun R18 hR18 => ?_
    have k73 := My.Same.new (o := .lst ([V.ref a0, V.ref a1, V.ref a2, V.ref a3, V.ref a4, V.ref a5, V.ref a6, V.ref a7, V.ref a8, V.ref a9, V.ref a10, V.ref a11, V.ref a12, V.ref a13, V.ref a14, V.ref a15, V.ref a16, V.ref a17, V.ref a18, V.ref a19, V.ref a20, V.ref a21, V.ref a22, V.ref a23, V.ref a24, V.ref a25, V.ref a26, V.ref a27, V.ref a28, V.ref a29, V.ref a30, V.ref a31, V.ref a32, V.ref a33] ++ [V.ref a34, V.ref a35])) (Same.refl H72) hR18
    generalize hH : upd H72 R18 (.lst ([V.ref a0, V.ref a1, V.ref a2, V.ref a3, V.ref a4, V.ref a5, V.ref a6, V.ref a7, V.ref a8, V.ref a9, V.ref a10, V.ref a11, V.ref a12, V.ref a13, V.ref a14, V.ref a15, V.ref a16, V.ref a17, V.ref a18, V.ref a19, V.ref a20, V.ref a21, V.ref a22, V.ref a23, V.ref a24, V.ref a25, V.ref a26, V.ref a27, V.ref a28, V.ref a29, V.ref a30, V.ref a31, V.ref a32, V.ref a33] ++ [V.ref a34, V.ref a35])) = H73 at k73 ⊢
    have gR18 : H73 R18 = some (.lst [V.ref a0, V.ref a1, V.ref a2, V.ref a3, V.ref a4, V.ref a5, V.ref a6, V.ref a7, V.ref a8, V.ref a9, V.ref a10, V.ref a11, V.ref a12, V.ref a13, V.ref a14, V.ref a15, V.ref a16, V.ref a17, V.ref a18, V.ref a19, V.ref a20, V.ref a21, V.ref a22, V.ref a23, V.ref a24, V.ref a25, V.ref a26, V.ref a27, V.ref a28, V.ref a29, V.ref a30, V.ref a31, V.ref a32, V.ref a33, V.ref a34, V.ref a35]) := by rw [← hH]; exact upd_same
    replace S := S.trans k73
    replace X := X.same k73
    clear hH k73 hR18 gR17 gP
    walk_at "go"
    have X2 : Xs H73 [(a0, He.ga K "InvalidBlock", [(("value" : Str), v)]), (a1, He.ga K "InvalidRecord", [(("value" : Str), v)]), (a2, He.ga K "InvalidDisks", []), (a3, He.ga K "InvalidName", [(("value" : Str), v)]), (a4, He.ga K "InvalidIndex", [(("value" : Str), v)]), (a5, He.ga K "InvalidSize", [(("value" : Str), v)]), (a6, He.ga K "InvalidData", [(("value" : Str), v)]), (a7, He.ga K "InvalidCount", [(("value" : Str), v)]), (a8, He.ga K "InvalidArea", [(("value" : Str), v)]), (a9, He.ga K "UnknownName", [(("name" : Str), v)]), (a10, He.ga K "NameTaken", [(("name" : Str), v)]), (a11, He.ga K "NotVolume", [(("name" : Str), v)]), (a12, He.ga K "NotSnapshot", [(("name" : Str), v)]), (a13, He.ga K "NotAncestor", [(("name" : Str), v)]), (a14, He.ga K "Branched", [(("name" : Str), v)]), (a15, He.ga K "Busy", []), (a16, He.ga K "Closed", []), (a17, He.ga K "NoStore", []), (a18, He.ga K "Damaged", [(("index" : Str), v), (("name" : Str), v)]), (a19, He.ga K "PowerLoss", []), (a20, He.ga K "NoSpace", [(("missing" : Str), v)]), (a21, He.ga K "TooMany", [(("limit" : Str), v)]), (a22, He.ga K "QuotaExceeded", [(("name" : Str), v)]), (a23, He.ga K "InvalidPart", [(("value" : Str), v)]), (a24, He.ga K "NoBase", [(("name" : Str), v)]), (a25, He.ga K "WrongPart", [(("number" : Str), v)]), (a26, He.ga K "BaseDiffers", [(("name" : Str), v)]), (a27, He.ga K "Altered", [(("name" : Str), v)]), (a28, He.ga K "Clashing", [(("indexes" : Str), v)]), (a29, He.ga K "InvalidUser", [(("value" : Str), v)]), (a30, He.ga K "InvalidOperation", [(("value" : Str), v)]), (a31, He.ga K "ParseError", [(("text" : Str), v)]), (a32, He.ga K "InvalidCommand", []), (a33, He.ga K "NothingToUndo", [(("user" : Str), v)]), (a34, He.ga K "NothingToRedo", [(("user" : Str), v)]), (a35, He.ga K "StillNeeded", [(("position" : Str), v)])] := X.rev (L := [(a35, He.ga K "StillNeeded", [(("position" : Str), v)]), (a34, He.ga K "NothingToRedo", [(("user" : Str), v)]), (a33, He.ga K "NothingToUndo", [(("user" : Str), v)]), (a32, He.ga K "InvalidCommand", []), (a31, He.ga K "ParseError", [(("text" : Str), v)]), (a30, He.ga K "InvalidOperation", [(("value" : Str), v)]), (a29, He.ga K "InvalidUser", [(("value" : Str), v)]), (a28, He.ga K "Clashing", [(("indexes" : Str), v)]), (a27, He.ga K "Altered", [(("name" : Str), v)]), (a26, He.ga K "BaseDiffers", [(("name" : Str), v)]), (a25, He.ga K "WrongPart", [(("number" : Str), v)]), (a24, He.ga K "NoBase", [(("name" : Str), v)]), (a23, He.ga K "InvalidPart", [(("value" : Str), v)]), (a22, He.ga K "QuotaExceeded", [(("name" : Str), v)]), (a21, He.ga K "TooMany", [(("limit" : Str), v)]), (a20, He.ga K "NoSpace", [(("missing" : Str), v)]), (a19, He.ga K "PowerLoss", []), (a18, He.ga K "Damaged", [(("index" : Str), v), (("name" : Str), v)]), (a17, He.ga K "NoStore", []), (a16, He.ga K "Closed", []), (a15, He.ga K "Busy", []), (a14, He.ga K "Branched", [(("name" : Str), v)]), (a13, He.ga K "NotAncestor", [(("name" : Str), v)]), (a12, He.ga K "NotSnapshot", [(("name" : Str), v)]), (a11, He.ga K "NotVolume", [(("name" : Str), v)]), (a10, He.ga K "NameTaken", [(("name" : Str), v)]), (a9, He.ga K "UnknownName", [(("name" : Str), v)]), (a8, He.ga K "InvalidArea", [(("value" : Str), v)]), (a7, He.ga K "InvalidCount", [(("value" : Str), v)]), (a6, He.ga K "InvalidData", [(("value" : Str), v)]), (a5, He.ga K "InvalidSize", [(("value" : Str), v)]), (a4, He.ga K "InvalidIndex", [(("value" : Str), v)]), (a3, He.ga K "InvalidName", [(("value" : Str), v)]), (a2, He.ga K "InvalidDisks", []), (a1, He.ga K "InvalidRecord", [(("value" : Str), v)]), (a0, He.ga K "InvalidBlock", [(("value" : Str), v)])]) rfl
    exact q R18 [(a0, He.ga K "InvalidBlock", [(("value" : Str), v)]), (a1, He.ga K "InvalidRecord", [(("value" : Str), v)]), (a2, He.ga K "InvalidDisks", []), (a3, He.ga K "InvalidName", [(("value" : Str), v)]), (a4, He.ga K "InvalidIndex", [(("value" : Str), v)]), (a5, He.ga K "InvalidSize", [(("value" : Str), v)]), (a6, He.ga K "InvalidData", [(("value" : Str), v)]), (a7, He.ga K "InvalidCount", [(("value" : Str), v)]), (a8, He.ga K "InvalidArea", [(("value" : Str), v)]), (a9, He.ga K "UnknownName", [(("name" : Str), v)]), (a10, He.ga K "NameTaken", [(("name" : Str), v)]), (a11, He.ga K "NotVolume", [(("name" : Str), v)]), (a12, He.ga K "NotSnapshot", [(("name" : Str), v)]), (a13, He.ga K "NotAncestor", [(("name" : Str), v)]), (a14, He.ga K "Branched", [(("name" : Str), v)]), (a15, He.ga K "Busy", []), (a16, He.ga K "Closed", []), (a17, He.ga K "NoStore", []), (a18, He.ga K "Damaged", [(("index" : Str), v), (("name" : Str), v)]), (a19, He.ga K "PowerLoss", []), (a20, He.ga K "NoSpace", [(("missing" : Str), v)]), (a21, He.ga K "TooMany", [(("limit" : Str), v)]), (a22, He.ga K "QuotaExceeded", [(("name" : Str), v)]), (a23, He.ga K "InvalidPart", [(("value" : Str), v)]), (a24, He.ga K "NoBase", [(("name" : Str), v)]), (a25, He.ga K "WrongPart", [(("number" : Str), v)]), (a26, He.ga K "BaseDiffers", [(("name" : Str), v)]), (a27, He.ga K "Altered", [(("name" : Str), v)]), (a28, He.ga K "Clashing", [(("indexes" : Str), v)]), (a29, He.ga K "InvalidUser", [(("value" : Str), v)]), (a30, He.ga K "InvalidOperation", [(("value" : Str), v)]), (a31, He.ga K "ParseError", [(("text" : Str), v)]), (a32, He.ga K "InvalidCommand", []), (a33, He.ga K "NothingToUndo", [(("user" : Str), v)]), (a34, He.ga K "NothingToRedo", [(("user" : Str), v)]), (a35, He.ga K "StillNeeded", [(("position" : Str), v)])] H73 S gR18 X2 (by kernel_rfl)
end
end K36

end

section
set_option maxHeartbeats 4000000
local macro_rules | `(tactic| walk_at "ne") => `(tactic| first | assumption | (apply Ne.symm; assumption) | exact L2.ne_of_none (by assumption) (by assumption) | exact (L2.ne_of_none (by assumption) (by assumption)).symm)
local macro_rules | `(tactic| walk_at "hp") => `(tactic| first | assumption | exact L2.upd_same | (rw [L2.upd_ne (by walk_at "ne")]; walk_at "hp"))
local macro_rules | `(tactic| walk_at "sq") => `(tactic| first | assumption | exact L2.SqL.of (by walk_at "hp") | exact My.sq_new (by walk_at "sq") (by assumption))
local macro_rules | `(tactic| walk_at "sd") => `(tactic| first | decide | omega | (unfold L2.CDivN; omega) | (unfold L2.CMul; omega) | (unfold L2.CPow; omega))
local macro_rules | `(tactic| walk_at "sx1") => `(tactic| first | with_reducible refine My.x_seq ?_ | with_reducible refine My.x_asg ?_ | with_reducible refine My.x_ret ?_ | with_reducible refine My.x_next ?_ | with_reducible refine My.x_op ?_ | with_reducible refine My.x_c ?_ | with_reducible refine My.x_ifs ?_ | with_reducible refine My.x_test ?_ | with_reducible refine My.x_exbl ?_ | with_reducible refine My.x_cons ?_ | with_reducible refine My.x_nil ?_ | with_reducible refine My.x_cb ?_ | with_reducible refine My.x_drop ?_ | with_reducible refine My.x_par ?_ | with_reducible refine My.x_exp2 ?_ | with_reducible refine My.x_aug ?_ | with_reducible refine My.x_if ?_ | with_reducible refine My.x_tB ?_ | with_reducible refine My.x_and ?_ | with_reducible refine My.x_or ?_ | with_reducible refine My.x_not ?_ | with_reducible refine My.x_retn ?_ | with_reducible refine My.x_cont ?_ | with_reducible refine My.x_brk ?_ | with_reducible refine My.x_un ?_ | with_reducible refine My.x_tfor ?_ | with_reducible refine My.x_ilist ?_ | with_reducible refine My.x_rng1 ?_ | with_reducible refine My.x_rng2 ?_ | with_reducible refine My.x_r1 ?_ | with_reducible refine My.x_call ?_ | with_reducible refine My.x_sl ?_ | with_reducible refine My.x_part ?_ | with_reducible refine My.x_nopart ?_ | with_reducible refine My.x_ii0 ?_ | with_reducible refine My.x_yes ?_ | with_reducible refine My.x_andv ?_ | with_reducible refine My.x_orv ?_ | with_reducible refine My.x_notv ?_ | with_reducible refine My.x_iT ?_ | with_reducible refine My.x_iF ?_ | with_reducible refine My.x_chain ?_ | with_reducible refine My.x_exI ?_ | with_reducible refine My.x_wipe ?_ | with_reducible refine My.x_bm ?_ | with_reducible refine My.x_bm0 ?_ | with_reducible refine My.x_gsub ?_ | with_reducible refine My.x_int1 ?_ | with_reducible refine My.x_two ?_ | with_reducible refine My.x_lst ?_ | with_reducible refine My.x_tup ?_ | with_reducible refine My.x_revL ?_ | with_reducible refine My.x_dput ?_ | with_reducible refine My.x_dget ?_ | with_reducible refine My.x_dnew ?_ | with_reducible refine My.x_dc ?_ | with_reducible refine My.x_lc ?_ | with_reducible refine My.x_ienum ?_ | with_reducible refine My.x_gcons ?_ | with_reducible refine My.x_gnil ?_ | with_reducible refine My.x_v0 ?_ | with_reducible refine My.x_v1 ?_ | with_reducible refine My.x_v2 ?_ | with_reducible refine My.x_v3 ?_ | with_reducible refine My.x_v4 ?_ | with_reducible refine My.x_v5 ?_ | with_reducible refine My.x_v6 ?_ | with_reducible refine My.x_v7 ?_ | with_reducible refine My.x_v8 ?_ | with_reducible refine My.x_v9 ?_ | with_reducible refine My.x_v10 ?_ | with_reducible refine My.x_v11 ?_ | with_reducible refine My.x_v12 ?_ | with_reducible refine My.x_v13 ?_ | with_reducible refine My.x_v14 ?_ | with_reducible refine My.x_v15 ?_ | with_reducible refine My.x_v16 ?_ | with_reducible refine My.x_v17 ?_ | with_reducible refine My.x_v18 ?_ | with_reducible refine My.x_v19 ?_ | with_reducible refine My.x_v20 ?_ | with_reducible refine My.x_v21 ?_ | with_reducible refine My.x_v22 ?_ | with_reducible refine My.x_v23 ?_ | with_reducible refine My.x_v24 ?_ | with_reducible refine My.x_v25 ?_ | with_reducible refine My.x_g0 ?_ | with_reducible refine My.x_g1 ?_ | with_reducible refine My.x_g2 ?_ | with_reducible refine My.x_g3 ?_ | with_reducible refine My.x_g4 ?_ | with_reducible refine My.x_g5 ?_ | with_reducible refine My.x_g6 ?_ | with_reducible refine My.x_g7 ?_ | with_reducible refine My.x_g8 ?_ | with_reducible refine My.x_g9 ?_ | with_reducible refine My.x_g10 ?_ | with_reducible refine My.x_g11 ?_ | with_reducible refine My.x_g12 ?_ | with_reducible refine My.x_g13 ?_ | with_reducible refine My.x_g14 ?_ | with_reducible refine My.x_g15 ?_ | with_reducible refine My.x_g16 ?_ | with_reducible refine My.x_g17 ?_ | with_reducible refine My.x_g18 ?_ | with_reducible refine My.x_g19 ?_ | with_reducible refine My.x_g20 ?_ | with_reducible refine My.x_g21 ?_ | with_reducible refine My.x_g22 ?_ | with_reducible refine My.x_g23 ?_ | with_reducible refine My.x_g24 ?_ | with_reducible refine My.x_g25 ?_)
local macro_rules | `(tactic| walk_at "sx") => `(tactic| repeat (walk_at "sx1"))
local macro_rules | `(tactic| walk_at "ln") => `(tactic| first | assumption | exact Nat.le_of_ble_eq_true rfl | (simp only [List.length_append, List.length_map, List.length_cons, List.length_nil]; simp only [PySem.sizeLine]; omega))
local macro_rules | `(tactic| walk_at "st") => `(tactic| first | assumption | exact L2.SqT.of (by walk_at "hp"))
local macro_rules | `(tactic| walk_at "go1") => `(tactic| first | walk_at "sx1" | ((with_reducible refine' My.x_ixL ?x0 ?x1 ?x2); (case x0 => walk_at "sq"); (case x1 => exact rfl)) | ((with_reducible refine' My.x_ixT ?x0 ?x1 ?x2); (case x0 => walk_at "st"); (case x1 => exact rfl)) | ((with_reducible refine' My.x_i ?x0 ?x1); (case x0 => walk_at "sd")) | ((with_reducible refine' My.x_setL ?x0 ?x1 ?x2); (case x0 => walk_at "hp"); (case x1 => exact rfl)) | ((with_reducible refine' My.x_len ?x0 ?x1); (case x0 => walk_at "sq")) | ((with_reducible refine' My.x_lenT ?x0 ?x1); (case x0 => walk_at "st")) | ((with_reducible refine' My.x_lenD ?x0 ?x1); (case x0 => walk_at "hp")) | ((with_reducible refine' My.x_append ?x0 ?x1 ?x2); (case x0 => walk_at "hp"); (case x1 => walk_at "ln")) | ((with_reducible refine' My.x_tyL ?x0 ?x1); (case x0 => walk_at "hp")) | ((with_reducible refine' My.x_ilistE ?x0 ?x1); (case x0 => walk_at "sq")) | ((with_reducible refine' My.x_ienumE ?x0 ?x1); (case x0 => walk_at "sq")) | ((with_reducible refine' My.x_sortI ?x0 ?x1); (case x0 => walk_at "sq")) | ((with_reducible refine' My.x_slL ?x0 ?x1); (case x0 => walk_at "sq")) | ((with_reducible refine' My.x_revL2 ?x0 ?x1); (case x0 => walk_at "sq")) | ((with_reducible refine' My.x_eq ?x0 ?x1); (case x0 => exact rfl)) | ((with_reducible refine' My.x_ne ?x0 ?x1); (case x0 => exact rfl)) | ((with_reducible refine' My.x_dputI ?x0 ?x1 ?x2); (case x0 => walk_at "hp"); (case x1 => walk_at "ln")) | ((with_reducible refine' My.x_dputS ?x0 ?x1 ?x2); (case x0 => walk_at "hp"); (case x1 => walk_at "ln")) | ((with_reducible refine' My.x_seqof ?x0 ?x1); (case x0 => walk_at "sq")) | ((with_reducible refine' My.x_gtup ?x0 ?x1 ?x2); (case x0 => walk_at "st"); (case x1 => exact rfl)) | ((with_reducible refine' My.x_mem1 ?x0 ?x1); (case x0 => walk_at "ln")))
local macro_rules | `(tactic| walk_at "go") => `(tactic| repeat (walk_at "go1"))
local macro_rules | `(tactic| walk_at "sx1") => `(tactic| first | with_reducible refine My.x_gx ?_ | with_reducible refine My.x_gxK ?_ | with_reducible refine My.x_gi ?_ | with_reducible refine My.x_gst ?_ | with_reducible refine My.x_xg ?_ | with_reducible refine My.x_nF ?_ | with_reducible refine My.x_nT ?_)
namespace K36
open PySem PySem.Spec PyProof.Rows L2
theorem PS_imp {X : Cx} {e : Stmt} {t t' : TS} (h : PS X e t') (k : ∀ D σ H, t D σ H → t' D σ H) : PS X e t := ⟨fun pins s σ H D I q => h.run pins s σ H D I (k _ _ _ q)⟩
structure TabF (K : PySem.W.Frag) : Prop where
  xf : ∀ i, i < 36 → XfC K (Cn K i)
  no : ∀ i, i < 36 → ∀ f : Str, f ∈ ((fsL .non).getD i []).map (·.1) → PySem.W.findIn K (.ref (Cn K i)) f = some none
/-- a list of one exception of each class, all holding v -/
def Made (K : PySem.W.Frag) (H : Hp) (p : Addr) (v : V) : Prop := ∃ L : List (Addr × Addr × List (Str × V)), H p = some (.lst (L.map fun t => V.ref t.1)) ∧ Xs H L ∧ L.map (·.2) = (List.range 36).map (fun i => (Cn K i, (fsL v).getD i []))
theorem Made.same {K : PySem.W.Frag} {H H' : Hp} {p : Addr} {v : V} (h : Made K H p v) (s : Same H H') : Made K H' p v := by
  obtain ⟨L, e, x, m⟩ := h
  exact ⟨L, s _ _ e, x.same s, m⟩
theorem Made.get {K : PySem.W.Frag} {H : Hp} {p : Addr} {v : V} (h : Made K H p v) : ∃ xs : List V, H p = some (.lst xs) ∧ ∀ i, i < 36 → ∃ a : Addr, atI xs (i : Nat) = some (.ref a) ∧ My.ExAt H a (Cn K i) ((fsL v).getD i []) := by
  obtain ⟨L, e, x, m⟩ := h
  refine ⟨_, e, fun i hi => ?_⟩
  have hm : (L.map (·.2))[i]? = some (Cn K i, (fsL v).getD i []) := by
    rw [m, List.getElem?_map, List.getElem?_range hi]
    rfl
  rw [List.getElem?_map] at hm
  obtain ⟨t, ht, e2⟩ := Option.map_eq_some_iff.mp hm
  obtain ⟨a, c, f⟩ := t
  cases e2
  exact ⟨a, atI_nat (by rw [List.getElem?_map, ht]; rfl), x _ (List.mem_of_getElem? ht)⟩
/-- k fields read -/
def Pk (H : Hp) (v : V) (r : Addr) (k : Nat) (H1 : Hp) : Prop := Same H H1 ∧ H1 r = some (.lst (List.replicate k v)) ∧ H r = none
theorem Pk.next {H : Hp} {v : V} {r : Addr} {k : Nat} {H1 : Hp} (z : Pk H v r k H1) : Pk H v r (k + 1) (upd H1 r (.lst (List.replicate k v ++ [v]))) :=
  ⟨My.Same.mut z.1 z.2.2, by rw [upd_same, List.replicate_succ'], z.2.2⟩
def sp_fields (K : PySem.W.Frag) : Sp := fun vs H Q _ => ∃ (p : Addr) (v : V), vs = [.ref p] ∧ Made K H p v ∧ ∀ (r : Addr) (H' : Hp), Same H H' → H' r = some (.lst (List.replicate 31 v)) → Q (.ref r) H'
section
variable {P : Program} {w : World} {K : PySem.W.Frag} {mg : Str → Option Value} {base : Heap}
theorem ok_fields (T : Tx K mg) (TF : TabF K) {fd : FuncData} (F : Fd K d_law_fields fd) : FnOk P w K mg base CX0 1 (He.ga K "_law_fields") fd ["_law_made_here"] (sp_fields K) := by
  refine F.ok sc_law_fields (fun vs H Q E h => ?_) (fun cdv A outer s H vs Q E hr h => ?_)
  · obtain ⟨p, v, rfl, _⟩ := h
    rfl
  · obtain ⟨p, v, rfl, hM, q⟩ := h
    obtain ⟨xs, hp, get⟩ := hM.get
    have h0 : ∀ (r : Addr) (H1 : Hp), Pk H v r 0 H1 → ∃ a : Addr, ∃ fs : List (Str × V), SqL K H1 p xs ∧ atI xs 0 = some (.ref a) ∧ My.ExAt H1 a (Cn K 0) fs ∧ XfC K (Cn K 0) ∧ PySem.W.findIn K (.ref (Cn K 0)) "value" = some none ∧ fs.lookup ("value" : Str) = some v ∧ H1 r = some (.lst (List.replicate 0 v)) ∧ Pk H v r 1 (upd H1 r (.lst (List.replicate 0 v ++ [v]))) := fun r H1 z => by
      obtain ⟨b, hb, xb⟩ := get 0 (by decide)
      exact ⟨b, _, SqL.of (z.1 _ _ hp), hb, xb.same z.1, TF.xf 0 (by decide), TF.no 0 (by decide) "value" (by decide +kernel), by kernel_rfl, z.2.1, z.next⟩
    have h1 : ∀ (r : Addr) (H1 : Hp), Pk H v r 1 H1 → ∃ a : Addr, ∃ fs : List (Str × V), SqL K H1 p xs ∧ atI xs 1 = some (.ref a) ∧ My.ExAt H1 a (Cn K 1) fs ∧ XfC K (Cn K 1) ∧ PySem.W.findIn K (.ref (Cn K 1)) "value" = some none ∧ fs.lookup ("value" : Str) = some v ∧ H1 r = some (.lst (List.replicate 1 v)) ∧ Pk H v r 2 (upd H1 r (.lst (List.replicate 1 v ++ [v]))) := fun r H1 z => by
      obtain ⟨b, hb, xb⟩ := get 1 (by decide)
      exact ⟨b, _, SqL.of (z.1 _ _ hp), hb, xb.same z.1, TF.xf 1 (by decide), TF.no 1 (by decide) "value" (by decide +kernel), by kernel_rfl, z.2.1, z.next⟩
    have h2 : ∀ (r : Addr) (H1 : Hp), Pk H v r 2 H1 → ∃ a : Addr, ∃ fs : List (Str × V), SqL K H1 p xs ∧ atI xs 3 = some (.ref a) ∧ My.ExAt H1 a (Cn K 3) fs ∧ XfC K (Cn K 3) ∧ PySem.W.findIn K (.ref (Cn K 3)) "value" = some none ∧ fs.lookup ("value" : Str) = some v ∧ H1 r = some (.lst (List.replicate 2 v)) ∧ Pk H v r 3 (upd H1 r (.lst (List.replicate 2 v ++ [v]))) := fun r H1 z => by
      obtain ⟨b, hb, xb⟩ := get 3 (by decide)
      exact ⟨b, _, SqL.of (z.1 _ _ hp), hb, xb.same z.1, TF.xf 3 (by decide), TF.no 3 (by decide) "value" (by decide +kernel), by kernel_rfl, z.2.1, z.next⟩
    have h3 : ∀ (r : Addr) (H1 : Hp), Pk H v r 3 H1 → ∃ a : Addr, ∃ fs : List (Str × V), SqL K H1 p xs ∧ atI xs 4 = some (.ref a) ∧ My.ExAt H1 a (Cn K 4) fs ∧ XfC K (Cn K 4) ∧ PySem.W.findIn K (.ref (Cn K 4)) "value" = some none ∧ fs.lookup ("value" : Str) = some v ∧ H1 r = some (.lst (List.replicate 3 v)) ∧ Pk H v r 4 (upd H1 r (.lst (List.replicate 3 v ++ [v]))) := fun r H1 z => by
      obtain ⟨b, hb, xb⟩ := get 4 (by decide)
      exact ⟨b, _, SqL.of (z.1 _ _ hp), hb, xb.same z.1, TF.xf 4 (by decide), TF.no 4 (by decide) "value" (by decide +kernel), by kernel_rfl, z.2.1, z.next⟩
    have h4 : ∀ (r : Addr) (H1 : Hp), Pk H v r 4 H1 → ∃ a : Addr, ∃ fs : List (Str × V), SqL K H1 p xs ∧ atI xs 5 = some (.ref a) ∧ My.ExAt H1 a (Cn K 5) fs ∧ XfC K (Cn K 5) ∧ PySem.W.findIn K (.ref (Cn K 5)) "value" = some none ∧ fs.lookup ("value" : Str) = some v ∧ H1 r = some (.lst (List.replicate 4 v)) ∧ Pk H v r 5 (upd H1 r (.lst (List.replicate 4 v ++ [v]))) := fun r H1 z => by
      obtain ⟨b, hb, xb⟩ := get 5 (by decide)
      exact ⟨b, _, SqL.of (z.1 _ _ hp), hb, xb.same z.1, TF.xf 5 (by decide), TF.no 5 (by decide) "value" (by decide +kernel), by kernel_rfl, z.2.1, z.next⟩
    have h5 : ∀ (r : Addr) (H1 : Hp), Pk H v r 5 H1 → ∃ a : Addr, ∃ fs : List (Str × V), SqL K H1 p xs ∧ atI xs 6 = some (.ref a) ∧ My.ExAt H1 a (Cn K 6) fs ∧ XfC K (Cn K 6) ∧ PySem.W.findIn K (.ref (Cn K 6)) "value" = some none ∧ fs.lookup ("value" : Str) = some v ∧ H1 r = some (.lst (List.replicate 5 v)) ∧ Pk H v r 6 (upd H1 r (.lst (List.replicate 5 v ++ [v]))) := fun r H1 z => by
      obtain ⟨b, hb, xb⟩ := get 6 (by decide)
      exact ⟨b, _, SqL.of (z.1 _ _ hp), hb, xb.same z.1, TF.xf 6 (by decide), TF.no 6 (by decide) "value" (by decide +kernel), by kernel_rfl, z.2.1, z.next⟩
    have h6 : ∀ (r : Addr) (H1 : Hp), Pk H v r 6 H1 → ∃ a : Addr, ∃ fs : List (Str × V), SqL K H1 p xs ∧ atI xs 7 = some (.ref a) ∧ My.ExAt H1 a (Cn K 7) fs ∧ XfC K (Cn K 7) ∧ PySem.W.findIn K (.ref (Cn K 7)) "value" = some none ∧ fs.lookup ("value" : Str) = some v ∧ H1 r = some (.lst (List.replicate 6 v)) ∧ Pk H v r 7 (upd H1 r (.lst (List.replicate 6 v ++ [v]))) := fun r H1 z => by
      obtain ⟨b, hb, xb⟩ := get 7 (by decide)
      exact ⟨b, _, SqL.of (z.1 _ _ hp), hb, xb.same z.1, TF.xf 7 (by decide), TF.no 7 (by decide) "value" (by decide +kernel), by kernel_rfl, z.2.1, z.next⟩
    have h7 : ∀ (r : Addr) (H1 : Hp), Pk H v r 7 H1 → ∃ a : Addr, ∃ fs : List (Str × V), SqL K H1 p xs ∧ atI xs 8 = some (.ref a) ∧ My.ExAt H1 a (Cn K 8) fs ∧ XfC K (Cn K 8) ∧ PySem.W.findIn K (.ref (Cn K 8)) "value" = some none ∧ fs.lookup ("value" : Str) = some v ∧ H1 r = some (.lst (List.replicate 7 v)) ∧ Pk H v r 8 (upd H1 r (.lst (List.replicate 7 v ++ [v]))) := fun r H1 z => by
      obtain ⟨b, hb, xb⟩ := get 8 (by decide)
      exact ⟨b, _, SqL.of (z.1 _ _ hp), hb, xb.same z.1, TF.xf 8 (by decide), TF.no 8 (by decide) "value" (by decide +kernel), by kernel_rfl, z.2.1, z.next⟩
    have h8 : ∀ (r : Addr) (H1 : Hp), Pk H v r 8 H1 → ∃ a : Addr, ∃ fs : List (Str × V), SqL K H1 p xs ∧ atI xs 9 = some (.ref a) ∧ My.ExAt H1 a (Cn K 9) fs ∧ XfC K (Cn K 9) ∧ PySem.W.findIn K (.ref (Cn K 9)) "name" = some none ∧ fs.lookup ("name" : Str) = some v ∧ H1 r = some (.lst (List.replicate 8 v)) ∧ Pk H v r 9 (upd H1 r (.lst (List.replicate 8 v ++ [v]))) := fun r H1 z => by
      obtain ⟨b, hb, xb⟩ := get 9 (by decide)
      exact ⟨b, _, SqL.of (z.1 _ _ hp), hb, xb.same z.1, TF.xf 9 (by decide), TF.no 9 (by decide) "name" (by decide +kernel), by kernel_rfl, z.2.1, z.next⟩
    have h9 : ∀ (r : Addr) (H1 : Hp), Pk H v r 9 H1 → ∃ a : Addr, ∃ fs : List (Str × V), SqL K H1 p xs ∧ atI xs 10 = some (.ref a) ∧ My.ExAt H1 a (Cn K 10) fs ∧ XfC K (Cn K 10) ∧ PySem.W.findIn K (.ref (Cn K 10)) "name" = some none ∧ fs.lookup ("name" : Str) = some v ∧ H1 r = some (.lst (List.replicate 9 v)) ∧ Pk H v r 10 (upd H1 r (.lst (List.replicate 9 v ++ [v]))) := fun r H1 z => by
      obtain ⟨b, hb, xb⟩ := get 10 (by decide)
      exact ⟨b, _, SqL.of (z.1 _ _ hp), hb, xb.same z.1, TF.xf 10 (by decide), TF.no 10 (by decide) "name" (by decide +kernel), by kernel_rfl, z.2.1, z.next⟩
    have h10 : ∀ (r : Addr) (H1 : Hp), Pk H v r 10 H1 → ∃ a : Addr, ∃ fs : List (Str × V), SqL K H1 p xs ∧ atI xs 11 = some (.ref a) ∧ My.ExAt H1 a (Cn K 11) fs ∧ XfC K (Cn K 11) ∧ PySem.W.findIn K (.ref (Cn K 11)) "name" = some none ∧ fs.lookup ("name" : Str) = some v ∧ H1 r = some (.lst (List.replicate 10 v)) ∧ Pk H v r 11 (upd H1 r (.lst (List.replicate 10 v ++ [v]))) := fun r H1 z => by
      obtain ⟨b, hb, xb⟩ := get 11 (by decide)
      exact ⟨b, _, SqL.of (z.1 _ _ hp), hb, xb.same z.1, TF.xf 11 (by decide), TF.no 11 (by decide) "name" (by decide +kernel), by kernel_rfl, z.2.1, z.next⟩
    have h11 : ∀ (r : Addr) (H1 : Hp), Pk H v r 11 H1 → ∃ a : Addr, ∃ fs : List (Str × V), SqL K H1 p xs ∧ atI xs 12 = some (.ref a) ∧ My.ExAt H1 a (Cn K 12) fs ∧ XfC K (Cn K 12) ∧ PySem.W.findIn K (.ref (Cn K 12)) "name" = some none ∧ fs.lookup ("name" : Str) = some v ∧ H1 r = some (.lst (List.replicate 11 v)) ∧ Pk H v r 12 (upd H1 r (.lst (List.replicate 11 v ++ [v]))) := fun r H1 z => by
      obtain ⟨b, hb, xb⟩ := get 12 (by decide)
      exact ⟨b, _, SqL.of (z.1 _ _ hp), hb, xb.same z.1, TF.xf 12 (by decide), TF.no 12 (by decide) "name" (by decide +kernel), by kernel_rfl, z.2.1, z.next⟩
    have h12 : ∀ (r : Addr) (H1 : Hp), Pk H v r 12 H1 → ∃ a : Addr, ∃ fs : List (Str × V), SqL K H1 p xs ∧ atI xs 13 = some (.ref a) ∧ My.ExAt H1 a (Cn K 13) fs ∧ XfC K (Cn K 13) ∧ PySem.W.findIn K (.ref (Cn K 13)) "name" = some none ∧ fs.lookup ("name" : Str) = some v ∧ H1 r = some (.lst (List.replicate 12 v)) ∧ Pk H v r 13 (upd H1 r (.lst (List.replicate 12 v ++ [v]))) := fun r H1 z => by
      obtain ⟨b, hb, xb⟩ := get 13 (by decide)
      exact ⟨b, _, SqL.of (z.1 _ _ hp), hb, xb.same z.1, TF.xf 13 (by decide), TF.no 13 (by decide) "name" (by decide +kernel), by kernel_rfl, z.2.1, z.next⟩
    have h13 : ∀ (r : Addr) (H1 : Hp), Pk H v r 13 H1 → ∃ a : Addr, ∃ fs : List (Str × V), SqL K H1 p xs ∧ atI xs 14 = some (.ref a) ∧ My.ExAt H1 a (Cn K 14) fs ∧ XfC K (Cn K 14) ∧ PySem.W.findIn K (.ref (Cn K 14)) "name" = some none ∧ fs.lookup ("name" : Str) = some v ∧ H1 r = some (.lst (List.replicate 13 v)) ∧ Pk H v r 14 (upd H1 r (.lst (List.replicate 13 v ++ [v]))) := fun r H1 z => by
      obtain ⟨b, hb, xb⟩ := get 14 (by decide)
      exact ⟨b, _, SqL.of (z.1 _ _ hp), hb, xb.same z.1, TF.xf 14 (by decide), TF.no 14 (by decide) "name" (by decide +kernel), by kernel_rfl, z.2.1, z.next⟩
    have h14 : ∀ (r : Addr) (H1 : Hp), Pk H v r 14 H1 → ∃ a : Addr, ∃ fs : List (Str × V), SqL K H1 p xs ∧ atI xs 18 = some (.ref a) ∧ My.ExAt H1 a (Cn K 18) fs ∧ XfC K (Cn K 18) ∧ PySem.W.findIn K (.ref (Cn K 18)) "name" = some none ∧ fs.lookup ("name" : Str) = some v ∧ H1 r = some (.lst (List.replicate 14 v)) ∧ Pk H v r 15 (upd H1 r (.lst (List.replicate 14 v ++ [v]))) := fun r H1 z => by
      obtain ⟨b, hb, xb⟩ := get 18 (by decide)
      exact ⟨b, _, SqL.of (z.1 _ _ hp), hb, xb.same z.1, TF.xf 18 (by decide), TF.no 18 (by decide) "name" (by decide +kernel), by kernel_rfl, z.2.1, z.next⟩
    have h15 : ∀ (r : Addr) (H1 : Hp), Pk H v r 15 H1 → ∃ a : Addr, ∃ fs : List (Str × V), SqL K H1 p xs ∧ atI xs 18 = some (.ref a) ∧ My.ExAt H1 a (Cn K 18) fs ∧ XfC K (Cn K 18) ∧ PySem.W.findIn K (.ref (Cn K 18)) "index" = some none ∧ fs.lookup ("index" : Str) = some v ∧ H1 r = some (.lst (List.replicate 15 v)) ∧ Pk H v r 16 (upd H1 r (.lst (List.replicate 15 v ++ [v]))) := fun r H1 z => by
      obtain ⟨b, hb, xb⟩ := get 18 (by decide)
      exact ⟨b, _, SqL.of (z.1 _ _ hp), hb, xb.same z.1, TF.xf 18 (by decide), TF.no 18 (by decide) "index" (by decide +kernel), by kernel_rfl, z.2.1, z.next⟩
    have h16 : ∀ (r : Addr) (H1 : Hp), Pk H v r 16 H1 → ∃ a : Addr, ∃ fs : List (Str × V), SqL K H1 p xs ∧ atI xs 20 = some (.ref a) ∧ My.ExAt H1 a (Cn K 20) fs ∧ XfC K (Cn K 20) ∧ PySem.W.findIn K (.ref (Cn K 20)) "missing" = some none ∧ fs.lookup ("missing" : Str) = some v ∧ H1 r = some (.lst (List.replicate 16 v)) ∧ Pk H v r 17 (upd H1 r (.lst (List.replicate 16 v ++ [v]))) := fun r H1 z => by
      obtain ⟨b, hb, xb⟩ := get 20 (by decide)
      exact ⟨b, _, SqL.of (z.1 _ _ hp), hb, xb.same z.1, TF.xf 20 (by decide), TF.no 20 (by decide) "missing" (by decide +kernel), by kernel_rfl, z.2.1, z.next⟩
    have h17 : ∀ (r : Addr) (H1 : Hp), Pk H v r 17 H1 → ∃ a : Addr, ∃ fs : List (Str × V), SqL K H1 p xs ∧ atI xs 21 = some (.ref a) ∧ My.ExAt H1 a (Cn K 21) fs ∧ XfC K (Cn K 21) ∧ PySem.W.findIn K (.ref (Cn K 21)) "limit" = some none ∧ fs.lookup ("limit" : Str) = some v ∧ H1 r = some (.lst (List.replicate 17 v)) ∧ Pk H v r 18 (upd H1 r (.lst (List.replicate 17 v ++ [v]))) := fun r H1 z => by
      obtain ⟨b, hb, xb⟩ := get 21 (by decide)
      exact ⟨b, _, SqL.of (z.1 _ _ hp), hb, xb.same z.1, TF.xf 21 (by decide), TF.no 21 (by decide) "limit" (by decide +kernel), by kernel_rfl, z.2.1, z.next⟩
    have h18 : ∀ (r : Addr) (H1 : Hp), Pk H v r 18 H1 → ∃ a : Addr, ∃ fs : List (Str × V), SqL K H1 p xs ∧ atI xs 22 = some (.ref a) ∧ My.ExAt H1 a (Cn K 22) fs ∧ XfC K (Cn K 22) ∧ PySem.W.findIn K (.ref (Cn K 22)) "name" = some none ∧ fs.lookup ("name" : Str) = some v ∧ H1 r = some (.lst (List.replicate 18 v)) ∧ Pk H v r 19 (upd H1 r (.lst (List.replicate 18 v ++ [v]))) := fun r H1 z => by
      obtain ⟨b, hb, xb⟩ := get 22 (by decide)
      exact ⟨b, _, SqL.of (z.1 _ _ hp), hb, xb.same z.1, TF.xf 22 (by decide), TF.no 22 (by decide) "name" (by decide +kernel), by kernel_rfl, z.2.1, z.next⟩
    have h19 : ∀ (r : Addr) (H1 : Hp), Pk H v r 19 H1 → ∃ a : Addr, ∃ fs : List (Str × V), SqL K H1 p xs ∧ atI xs 23 = some (.ref a) ∧ My.ExAt H1 a (Cn K 23) fs ∧ XfC K (Cn K 23) ∧ PySem.W.findIn K (.ref (Cn K 23)) "value" = some none ∧ fs.lookup ("value" : Str) = some v ∧ H1 r = some (.lst (List.replicate 19 v)) ∧ Pk H v r 20 (upd H1 r (.lst (List.replicate 19 v ++ [v]))) := fun r H1 z => by
      obtain ⟨b, hb, xb⟩ := get 23 (by decide)
      exact ⟨b, _, SqL.of (z.1 _ _ hp), hb, xb.same z.1, TF.xf 23 (by decide), TF.no 23 (by decide) "value" (by decide +kernel), by kernel_rfl, z.2.1, z.next⟩
    have h20 : ∀ (r : Addr) (H1 : Hp), Pk H v r 20 H1 → ∃ a : Addr, ∃ fs : List (Str × V), SqL K H1 p xs ∧ atI xs 24 = some (.ref a) ∧ My.ExAt H1 a (Cn K 24) fs ∧ XfC K (Cn K 24) ∧ PySem.W.findIn K (.ref (Cn K 24)) "name" = some none ∧ fs.lookup ("name" : Str) = some v ∧ H1 r = some (.lst (List.replicate 20 v)) ∧ Pk H v r 21 (upd H1 r (.lst (List.replicate 20 v ++ [v]))) := fun r H1 z => by
      obtain ⟨b, hb, xb⟩ := get 24 (by decide)
      exact ⟨b, _, SqL.of (z.1 _ _ hp), hb, xb.same z.1, TF.xf 24 (by decide), TF.no 24 (by decide) "name" (by decide +kernel), by kernel_rfl, z.2.1, z.next⟩
    have h21 : ∀ (r : Addr) (H1 : Hp), Pk H v r 21 H1 → ∃ a : Addr, ∃ fs : List (Str × V), SqL K H1 p xs ∧ atI xs 25 = some (.ref a) ∧ My.ExAt H1 a (Cn K 25) fs ∧ XfC K (Cn K 25) ∧ PySem.W.findIn K (.ref (Cn K 25)) "number" = some none ∧ fs.lookup ("number" : Str) = some v ∧ H1 r = some (.lst (List.replicate 21 v)) ∧ Pk H v r 22 (upd H1 r (.lst (List.replicate 21 v ++ [v]))) := fun r H1 z => by
      obtain ⟨b, hb, xb⟩ := get 25 (by decide)
      exact ⟨b, _, SqL.of (z.1 _ _ hp), hb, xb.same z.1, TF.xf 25 (by decide), TF.no 25 (by decide) "number" (by decide +kernel), by kernel_rfl, z.2.1, z.next⟩
    have h22 : ∀ (r : Addr) (H1 : Hp), Pk H v r 22 H1 → ∃ a : Addr, ∃ fs : List (Str × V), SqL K H1 p xs ∧ atI xs 26 = some (.ref a) ∧ My.ExAt H1 a (Cn K 26) fs ∧ XfC K (Cn K 26) ∧ PySem.W.findIn K (.ref (Cn K 26)) "name" = some none ∧ fs.lookup ("name" : Str) = some v ∧ H1 r = some (.lst (List.replicate 22 v)) ∧ Pk H v r 23 (upd H1 r (.lst (List.replicate 22 v ++ [v]))) := fun r H1 z => by
      obtain ⟨b, hb, xb⟩ := get 26 (by decide)
      exact ⟨b, _, SqL.of (z.1 _ _ hp), hb, xb.same z.1, TF.xf 26 (by decide), TF.no 26 (by decide) "name" (by decide +kernel), by kernel_rfl, z.2.1, z.next⟩
    have h23 : ∀ (r : Addr) (H1 : Hp), Pk H v r 23 H1 → ∃ a : Addr, ∃ fs : List (Str × V), SqL K H1 p xs ∧ atI xs 27 = some (.ref a) ∧ My.ExAt H1 a (Cn K 27) fs ∧ XfC K (Cn K 27) ∧ PySem.W.findIn K (.ref (Cn K 27)) "name" = some none ∧ fs.lookup ("name" : Str) = some v ∧ H1 r = some (.lst (List.replicate 23 v)) ∧ Pk H v r 24 (upd H1 r (.lst (List.replicate 23 v ++ [v]))) := fun r H1 z => by
      obtain ⟨b, hb, xb⟩ := get 27 (by decide)
      exact ⟨b, _, SqL.of (z.1 _ _ hp), hb, xb.same z.1, TF.xf 27 (by decide), TF.no 27 (by decide) "name" (by decide +kernel), by kernel_rfl, z.2.1, z.next⟩
    have h24 : ∀ (r : Addr) (H1 : Hp), Pk H v r 24 H1 → ∃ a : Addr, ∃ fs : List (Str × V), SqL K H1 p xs ∧ atI xs 28 = some (.ref a) ∧ My.ExAt H1 a (Cn K 28) fs ∧ XfC K (Cn K 28) ∧ PySem.W.findIn K (.ref (Cn K 28)) "indexes" = some none ∧ fs.lookup ("indexes" : Str) = some v ∧ H1 r = some (.lst (List.replicate 24 v)) ∧ Pk H v r 25 (upd H1 r (.lst (List.replicate 24 v ++ [v]))) := fun r H1 z => by
      obtain ⟨b, hb, xb⟩ := get 28 (by decide)
      exact ⟨b, _, SqL.of (z.1 _ _ hp), hb, xb.same z.1, TF.xf 28 (by decide), TF.no 28 (by decide) "indexes" (by decide +kernel), by kernel_rfl, z.2.1, z.next⟩
    have h25 : ∀ (r : Addr) (H1 : Hp), Pk H v r 25 H1 → ∃ a : Addr, ∃ fs : List (Str × V), SqL K H1 p xs ∧ atI xs 29 = some (.ref a) ∧ My.ExAt H1 a (Cn K 29) fs ∧ XfC K (Cn K 29) ∧ PySem.W.findIn K (.ref (Cn K 29)) "value" = some none ∧ fs.lookup ("value" : Str) = some v ∧ H1 r = some (.lst (List.replicate 25 v)) ∧ Pk H v r 26 (upd H1 r (.lst (List.replicate 25 v ++ [v]))) := fun r H1 z => by
      obtain ⟨b, hb, xb⟩ := get 29 (by decide)
      exact ⟨b, _, SqL.of (z.1 _ _ hp), hb, xb.same z.1, TF.xf 29 (by decide), TF.no 29 (by decide) "value" (by decide +kernel), by kernel_rfl, z.2.1, z.next⟩
    have h26 : ∀ (r : Addr) (H1 : Hp), Pk H v r 26 H1 → ∃ a : Addr, ∃ fs : List (Str × V), SqL K H1 p xs ∧ atI xs 30 = some (.ref a) ∧ My.ExAt H1 a (Cn K 30) fs ∧ XfC K (Cn K 30) ∧ PySem.W.findIn K (.ref (Cn K 30)) "value" = some none ∧ fs.lookup ("value" : Str) = some v ∧ H1 r = some (.lst (List.replicate 26 v)) ∧ Pk H v r 27 (upd H1 r (.lst (List.replicate 26 v ++ [v]))) := fun r H1 z => by
      obtain ⟨b, hb, xb⟩ := get 30 (by decide)
      exact ⟨b, _, SqL.of (z.1 _ _ hp), hb, xb.same z.1, TF.xf 30 (by decide), TF.no 30 (by decide) "value" (by decide +kernel), by kernel_rfl, z.2.1, z.next⟩
    have h27 : ∀ (r : Addr) (H1 : Hp), Pk H v r 27 H1 → ∃ a : Addr, ∃ fs : List (Str × V), SqL K H1 p xs ∧ atI xs 31 = some (.ref a) ∧ My.ExAt H1 a (Cn K 31) fs ∧ XfC K (Cn K 31) ∧ PySem.W.findIn K (.ref (Cn K 31)) "text" = some none ∧ fs.lookup ("text" : Str) = some v ∧ H1 r = some (.lst (List.replicate 27 v)) ∧ Pk H v r 28 (upd H1 r (.lst (List.replicate 27 v ++ [v]))) := fun r H1 z => by
      obtain ⟨b, hb, xb⟩ := get 31 (by decide)
      exact ⟨b, _, SqL.of (z.1 _ _ hp), hb, xb.same z.1, TF.xf 31 (by decide), TF.no 31 (by decide) "text" (by decide +kernel), by kernel_rfl, z.2.1, z.next⟩
    have h28 : ∀ (r : Addr) (H1 : Hp), Pk H v r 28 H1 → ∃ a : Addr, ∃ fs : List (Str × V), SqL K H1 p xs ∧ atI xs 33 = some (.ref a) ∧ My.ExAt H1 a (Cn K 33) fs ∧ XfC K (Cn K 33) ∧ PySem.W.findIn K (.ref (Cn K 33)) "user" = some none ∧ fs.lookup ("user" : Str) = some v ∧ H1 r = some (.lst (List.replicate 28 v)) ∧ Pk H v r 29 (upd H1 r (.lst (List.replicate 28 v ++ [v]))) := fun r H1 z => by
      obtain ⟨b, hb, xb⟩ := get 33 (by decide)
      exact ⟨b, _, SqL.of (z.1 _ _ hp), hb, xb.same z.1, TF.xf 33 (by decide), TF.no 33 (by decide) "user" (by decide +kernel), by kernel_rfl, z.2.1, z.next⟩
    have h29 : ∀ (r : Addr) (H1 : Hp), Pk H v r 29 H1 → ∃ a : Addr, ∃ fs : List (Str × V), SqL K H1 p xs ∧ atI xs 34 = some (.ref a) ∧ My.ExAt H1 a (Cn K 34) fs ∧ XfC K (Cn K 34) ∧ PySem.W.findIn K (.ref (Cn K 34)) "user" = some none ∧ fs.lookup ("user" : Str) = some v ∧ H1 r = some (.lst (List.replicate 29 v)) ∧ Pk H v r 30 (upd H1 r (.lst (List.replicate 29 v ++ [v]))) := fun r H1 z => by
      obtain ⟨b, hb, xb⟩ := get 34 (by decide)
      exact ⟨b, _, SqL.of (z.1 _ _ hp), hb, xb.same z.1, TF.xf 34 (by decide), TF.no 34 (by decide) "user" (by decide +kernel), by kernel_rfl, z.2.1, z.next⟩
    have h30 : ∀ (r : Addr) (H1 : Hp), Pk H v r 30 H1 → ∃ a : Addr, ∃ fs : List (Str × V), SqL K H1 p xs ∧ atI xs 35 = some (.ref a) ∧ My.ExAt H1 a (Cn K 35) fs ∧ XfC K (Cn K 35) ∧ PySem.W.findIn K (.ref (Cn K 35)) "position" = some none ∧ fs.lookup ("position" : Str) = some v ∧ H1 r = some (.lst (List.replicate 30 v)) ∧ Pk H v r 31 (upd H1 r (.lst (List.replicate 30 v ++ [v]))) := fun r H1 z => by
      obtain ⟨b, hb, xb⟩ := get 35 (by decide)
      exact ⟨b, _, SqL.of (z.1 _ _ hp), hb, xb.same z.1, TF.xf 35 (by decide), TF.no 35 (by decide) "position" (by decide +kernel), by kernel_rfl, z.2.1, z.next⟩
    refine ⟨_, PSs.nox (pss_cons (ps_set (i := 1) sc_law_fields.nd rfl (Or.inl rfl) (pe_lst pa_nil)) (pss_cons (PS_imp (t := fun D σ H1 => ∃ r, σ = [some (.ref p), some (.ref r)] ∧ Pk H v r 0 H1 ∧ ∀ H2, Pk H v r 1 H2 → D.nx [some (.ref p), some (.ref r)] H2) (ps_expr (pe_bm PySem.F.plainAttrs_list PySem.F.slot_list_append PySem.F.type_list_append mt_append (pv 1) (pa_cons (My.pe_xg (K := K) (by rfl) (pe_ix ix_list (pv 0) pe_int (fun _ _ => rfl))) pa_nil))) (fun D σ H1 hh => by
      obtain ⟨r, rfl, z, nx⟩ := hh
      obtain ⟨a, fs, q1, q2, q3, q4, q5, q6, q7, q8⟩ := h0 r H1 z
      walk_at "go"
      refine My.x_ixL q1 q2 ?_
      refine ⟨a, _, fs, v, rfl, q3, q4, q5, q6, ?_⟩
      show rAppend (V.ref r) [v] H1 (fun x H2 => D.nx [some (.ref p), some (.ref r)] H2)
      refine My.x_append q7 (Nat.le_of_ble_eq_true rfl) ?_
      exact nx _ q8))
    (pss_cons (PS_imp (t := fun D σ H1 => ∃ r, σ = [some (.ref p), some (.ref r)] ∧ Pk H v r 1 H1 ∧ ∀ H2, Pk H v r 2 H2 → D.nx [some (.ref p), some (.ref r)] H2) (ps_expr (pe_bm PySem.F.plainAttrs_list PySem.F.slot_list_append PySem.F.type_list_append mt_append (pv 1) (pa_cons (My.pe_xg (K := K) (by rfl) (pe_ix ix_list (pv 0) pe_int (fun _ _ => rfl))) pa_nil))) (fun D σ H1 hh => by
      obtain ⟨r, rfl, z, nx⟩ := hh
      obtain ⟨a, fs, q1, q2, q3, q4, q5, q6, q7, q8⟩ := h1 r H1 z
      walk_at "go"
      refine My.x_ixL q1 q2 ?_
      refine ⟨a, _, fs, v, rfl, q3, q4, q5, q6, ?_⟩
      show rAppend (V.ref r) [v] H1 (fun x H2 => D.nx [some (.ref p), some (.ref r)] H2)
      refine My.x_append q7 (Nat.le_of_ble_eq_true rfl) ?_
      exact nx _ q8))
    (pss_cons (PS_imp (t := fun D σ H1 => ∃ r, σ = [some (.ref p), some (.ref r)] ∧ Pk H v r 2 H1 ∧ ∀ H2, Pk H v r 3 H2 → D.nx [some (.ref p), some (.ref r)] H2) (ps_expr (pe_bm PySem.F.plainAttrs_list PySem.F.slot_list_append PySem.F.type_list_append mt_append (pv 1) (pa_cons (My.pe_xg (K := K) (by rfl) (pe_ix ix_list (pv 0) pe_int (fun _ _ => rfl))) pa_nil))) (fun D σ H1 hh => by
      obtain ⟨r, rfl, z, nx⟩ := hh
      obtain ⟨a, fs, q1, q2, q3, q4, q5, q6, q7, q8⟩ := h2 r H1 z
      walk_at "go"
      refine My.x_ixL q1 q2 ?_
      refine ⟨a, _, fs, v, rfl, q3, q4, q5, q6, ?_⟩
      show rAppend (V.ref r) [v] H1 (fun x H2 => D.nx [some (.ref p), some (.ref r)] H2)
      refine My.x_append q7 (Nat.le_of_ble_eq_true rfl) ?_
      exact nx _ q8))
    (pss_cons (PS_imp (t := fun D σ H1 => ∃ r, σ = [some (.ref p), some (.ref r)] ∧ Pk H v r 3 H1 ∧ ∀ H2, Pk H v r 4 H2 → D.nx [some (.ref p), some (.ref r)] H2) (ps_expr (pe_bm PySem.F.plainAttrs_list PySem.F.slot_list_append PySem.F.type_list_append mt_append (pv 1) (pa_cons (My.pe_xg (K := K) (by rfl) (pe_ix ix_list (pv 0) pe_int (fun _ _ => rfl))) pa_nil))) (fun D σ H1 hh => by
      obtain ⟨r, rfl, z, nx⟩ := hh
      obtain ⟨a, fs, q1, q2, q3, q4, q5, q6, q7, q8⟩ := h3 r H1 z
      walk_at "go"
      refine My.x_ixL q1 q2 ?_
      refine ⟨a, _, fs, v, rfl, q3, q4, q5, q6, ?_⟩
      show rAppend (V.ref r) [v] H1 (fun x H2 => D.nx [some (.ref p), some (.ref r)] H2)
      refine My.x_append q7 (Nat.le_of_ble_eq_true rfl) ?_
      exact nx _ q8))
    (pss_cons (PS_imp (t := fun D σ H1 => ∃ r, σ = [some (.ref p), some (.ref r)] ∧ Pk H v r 4 H1 ∧ ∀ H2, Pk H v r 5 H2 → D.nx [some (.ref p), some (.ref r)] H2) (ps_expr (pe_bm PySem.F.plainAttrs_list PySem.F.slot_list_append PySem.F.type_list_append mt_append (pv 1) (pa_cons (My.pe_xg (K := K) (by rfl) (pe_ix ix_list (pv 0) pe_int (fun _ _ => rfl))) pa_nil))) (fun D σ H1 hh => by
      obtain ⟨r, rfl, z, nx⟩ := hh
      obtain ⟨a, fs, q1, q2, q3, q4, q5, q6, q7, q8⟩ := h4 r H1 z
      walk_at "go"
      refine My.x_ixL q1 q2 ?_
      refine ⟨a, _, fs, v, rfl, q3, q4, q5, q6, ?_⟩
      show rAppend (V.ref r) [v] H1 (fun x H2 => D.nx [some (.ref p), some (.ref r)] H2)
      refine My.x_append q7 (Nat.le_of_ble_eq_true rfl) ?_
      exact nx _ q8))
    (pss_cons (PS_imp (t := fun D σ H1 => ∃ r, σ = [some (.ref p), some (.ref r)] ∧ Pk H v r 5 H1 ∧ ∀ H2, Pk H v r 6 H2 → D.nx [some (.ref p), some (.ref r)] H2) (ps_expr (pe_bm PySem.F.plainAttrs_list PySem.F.slot_list_append PySem.F.type_list_append mt_append (pv 1) (pa_cons (My.pe_xg (K := K) (by rfl) (pe_ix ix_list (pv 0) pe_int (fun _ _ => rfl))) pa_nil))) (fun D σ H1 hh => by
      obtain ⟨r, rfl, z, nx⟩ := hh
      obtain ⟨a, fs, q1, q2, q3, q4, q5, q6, q7, q8⟩ := h5 r H1 z
      walk_at "go"
      refine My.x_ixL q1 q2 ?_
      refine ⟨a, _, fs, v, rfl, q3, q4, q5, q6, ?_⟩
      show rAppend (V.ref r) [v] H1 (fun x H2 => D.nx [some (.ref p), some (.ref r)] H2)
      refine My.x_append q7 (Nat.le_of_ble_eq_true rfl) ?_
      exact nx _ q8))
    (pss_cons (PS_imp (t := fun D σ H1 => ∃ r, σ = [some (.ref p), some (.ref r)] ∧ Pk H v r 6 H1 ∧ ∀ H2, Pk H v r 7 H2 → D.nx [some (.ref p), some (.ref r)] H2) (ps_expr (pe_bm PySem.F.plainAttrs_list PySem.F.slot_list_append PySem.F.type_list_append mt_append (pv 1) (pa_cons (My.pe_xg (K := K) (by rfl) (pe_ix ix_list (pv 0) pe_int (fun _ _ => rfl))) pa_nil))) (fun D σ H1 hh => by
      obtain ⟨r, rfl, z, nx⟩ := hh
      obtain ⟨a, fs, q1, q2, q3, q4, q5, q6, q7, q8⟩ := h6 r H1 z
      walk_at "go"
      refine My.x_ixL q1 q2 ?_
      refine ⟨a, _, fs, v, rfl, q3, q4, q5, q6, ?_⟩
      show rAppend (V.ref r) [v] H1 (fun x H2 => D.nx [some (.ref p), some (.ref r)] H2)
      refine My.x_append q7 (Nat.le_of_ble_eq_true rfl) ?_
      exact nx _ q8))
    (pss_cons (PS_imp (t := fun D σ H1 => ∃ r, σ = [some (.ref p), some (.ref r)] ∧ Pk H v r 7 H1 ∧ ∀ H2, Pk H v r 8 H2 → D.nx [some (.ref p), some (.ref r)] H2) (ps_expr (pe_bm PySem.F.plainAttrs_list PySem.F.slot_list_append PySem.F.type_list_append mt_append (pv 1) (pa_cons (My.pe_xg (K := K) (by rfl) (pe_ix ix_list (pv 0) pe_int (fun _ _ => rfl))) pa_nil))) (fun D σ H1 hh => by
      obtain ⟨r, rfl, z, nx⟩ := hh
      obtain ⟨a, fs, q1, q2, q3, q4, q5, q6, q7, q8⟩ := h7 r H1 z
      walk_at "go"
      refine My.x_ixL q1 q2 ?_
      refine ⟨a, _, fs, v, rfl, q3, q4, q5, q6, ?_⟩
      show rAppend (V.ref r) [v] H1 (fun x H2 => D.nx [some (.ref p), some (.ref r)] H2)
      refine My.x_append q7 (Nat.le_of_ble_eq_true rfl) ?_
      exact nx _ q8))
    (pss_cons (PS_imp (t := fun D σ H1 => ∃ r, σ = [some (.ref p), some (.ref r)] ∧ Pk H v r 8 H1 ∧ ∀ H2, Pk H v r 9 H2 → D.nx [some (.ref p), some (.ref r)] H2) (ps_expr (pe_bm PySem.F.plainAttrs_list PySem.F.slot_list_append PySem.F.type_list_append mt_append (pv 1) (pa_cons (My.pe_xg (K := K) (by rfl) (pe_ix ix_list (pv 0) pe_int (fun _ _ => rfl))) pa_nil))) (fun D σ H1 hh => by
      obtain ⟨r, rfl, z, nx⟩ := hh
      obtain ⟨a, fs, q1, q2, q3, q4, q5, q6, q7, q8⟩ := h8 r H1 z
      walk_at "go"
      refine My.x_ixL q1 q2 ?_
      refine ⟨a, _, fs, v, rfl, q3, q4, q5, q6, ?_⟩
      show rAppend (V.ref r) [v] H1 (fun x H2 => D.nx [some (.ref p), some (.ref r)] H2)
      refine My.x_append q7 (Nat.le_of_ble_eq_true rfl) ?_
      exact nx _ q8))
    (pss_cons (PS_imp (t := fun D σ H1 => ∃ r, σ = [some (.ref p), some (.ref r)] ∧ Pk H v r 9 H1 ∧ ∀ H2, Pk H v r 10 H2 → D.nx [some (.ref p), some (.ref r)] H2) (ps_expr (pe_bm PySem.F.plainAttrs_list PySem.F.slot_list_append PySem.F.type_list_append mt_append (pv 1) (pa_cons (My.pe_xg (K := K) (by rfl) (pe_ix ix_list (pv 0) pe_int (fun _ _ => rfl))) pa_nil))) (fun D σ H1 hh => by
      obtain ⟨r, rfl, z, nx⟩ := hh
      obtain ⟨a, fs, q1, q2, q3, q4, q5, q6, q7, q8⟩ := h9 r H1 z
      walk_at "go"
      refine My.x_ixL q1 q2 ?_
      refine ⟨a, _, fs, v, rfl, q3, q4, q5, q6, ?_⟩
      show rAppend (V.ref r) [v] H1 (fun x H2 => D.nx [some (.ref p), some (.ref r)] H2)
      refine My.x_append q7 (Nat.le_of_ble_eq_true rfl) ?_
      exact nx _ q8))
    (pss_cons (PS_imp (t := fun D σ H1 => ∃ r, σ = [some (.ref p), some (.ref r)] ∧ Pk H v r 10 H1 ∧ ∀ H2, Pk H v r 11 H2 → D.nx [some (.ref p), some (.ref r)] H2) (ps_expr (pe_bm PySem.F.plainAttrs_list PySem.F.slot_list_append PySem.F.type_list_append mt_append (pv 1) (pa_cons (My.pe_xg (K := K) (by rfl) (pe_ix ix_list (pv 0) pe_int (fun _ _ => rfl))) pa_nil))) (fun D σ H1 hh => by
      obtain ⟨r, rfl, z, nx⟩ := hh
      obtain ⟨a, fs, q1, q2, q3, q4, q5, q6, q7, q8⟩ := h10 r H1 z
      walk_at "go"
      refine My.x_ixL q1 q2 ?_
      refine ⟨a, _, fs, v, rfl, q3, q4, q5, q6, ?_⟩
      show rAppend (V.ref r) [v] H1 (fun x H2 => D.nx [some (.ref p), some (.ref r)] H2)
      refine My.x_append q7 (Nat.le_of_ble_eq_true rfl) ?_
      exact nx _ q8))
    (pss_cons (PS_imp (t := fun D σ H1 => ∃ r, σ = [some (.ref p), some (.ref r)] ∧ Pk H v r 11 H1 ∧ ∀ H2, Pk H v r 12 H2 → D.nx [some (.ref p), some (.ref r)] H2) (ps_expr (pe_bm PySem.F.plainAttrs_list PySem.F.slot_list_append PySem.F.type_list_append mt_append (pv 1) (pa_cons (My.pe_xg (K := K) (by rfl) (pe_ix ix_list (pv 0) pe_int (fun _ _ => rfl))) pa_nil))) (fun D σ H1 hh => by
      obtain ⟨r, rfl, z, nx⟩ := hh
      obtain ⟨a, fs, q1, q2, q3, q4, q5, q6, q7, q8⟩ := h11 r H1 z
      walk_at "go"
      refine My.x_ixL q1 q2 ?_
      refine ⟨a, _, fs, v, rfl, q3, q4, q5, q6, ?_⟩
      show rAppend (V.ref r) [v] H1 (fun x H2 => D.nx [some (.ref p), some (.ref r)] H2)
      refine My.x_append q7 (Nat.le_of_ble_eq_true rfl) ?_
      exact nx _ q8))
    (pss_cons (PS_imp (t := fun D σ H1 => ∃ r, σ = [some (.ref p), some (.ref r)] ∧ Pk H v r 12 H1 ∧ ∀ H2, Pk H v r 13 H2 → D.nx [some (.ref p), some (.ref r)] H2) (ps_expr (pe_bm PySem.F.plainAttrs_list PySem.F.slot_list_append PySem.F.type_list_append mt_append (pv 1) (pa_cons (My.pe_xg (K := K) (by rfl) (pe_ix ix_list (pv 0) pe_int (fun _ _ => rfl))) pa_nil))) (fun D σ H1 hh => by
      obtain ⟨r, rfl, z, nx⟩ := hh
      obtain ⟨a, fs, q1, q2, q3, q4, q5, q6, q7, q8⟩ := h12 r H1 z
      walk_at "go"
      refine My.x_ixL q1 q2 ?_
      refine ⟨a, _, fs, v, rfl, q3, q4, q5, q6, ?_⟩
      show rAppend (V.ref r) [v] H1 (fun x H2 => D.nx [some (.ref p), some (.ref r)] H2)
      refine My.x_append q7 (Nat.le_of_ble_eq_true rfl) ?_
      exact nx _ q8))
    (pss_cons (PS_imp (t := fun D σ H1 => ∃ r, σ = [some (.ref p), some (.ref r)] ∧ Pk H v r 13 H1 ∧ ∀ H2, Pk H v r 14 H2 → D.nx [some (.ref p), some (.ref r)] H2) (ps_expr (pe_bm PySem.F.plainAttrs_list PySem.F.slot_list_append PySem.F.type_list_append mt_append (pv 1) (pa_cons (My.pe_xg (K := K) (by rfl) (pe_ix ix_list (pv 0) pe_int (fun _ _ => rfl))) pa_nil))) (fun D σ H1 hh => by
      obtain ⟨r, rfl, z, nx⟩ := hh
      obtain ⟨a, fs, q1, q2, q3, q4, q5, q6, q7, q8⟩ := h13 r H1 z
      walk_at "go"
      refine My.x_ixL q1 q2 ?_
      refine ⟨a, _, fs, v, rfl, q3, q4, q5, q6, ?_⟩
      show rAppend (V.ref r) [v] H1 (fun x H2 => D.nx [some (.ref p), some (.ref r)] H2)
      refine My.x_append q7 (Nat.le_of_ble_eq_true rfl) ?_
      exact nx _ q8))
    (pss_cons (PS_imp (t := fun D σ H1 => ∃ r, σ = [some (.ref p), some (.ref r)] ∧ Pk H v r 14 H1 ∧ ∀ H2, Pk H v r 15 H2 → D.nx [some (.ref p), some (.ref r)] H2) (ps_expr (pe_bm PySem.F.plainAttrs_list PySem.F.slot_list_append PySem.F.type_list_append mt_append (pv 1) (pa_cons (My.pe_xg (K := K) (by rfl) (pe_ix ix_list (pv 0) pe_int (fun _ _ => rfl))) pa_nil))) (fun D σ H1 hh => by
      obtain ⟨r, rfl, z, nx⟩ := hh
      obtain ⟨a, fs, q1, q2, q3, q4, q5, q6, q7, q8⟩ := h14 r H1 z
      walk_at "go"
      refine My.x_ixL q1 q2 ?_
      refine ⟨a, _, fs, v, rfl, q3, q4, q5, q6, ?_⟩
      show rAppend (V.ref r) [v] H1 (fun x H2 => D.nx [some (.ref p), some (.ref r)] H2)
      refine My.x_append q7 (Nat.le_of_ble_eq_true rfl) ?_
      exact nx _ q8))
    (pss_cons (PS_imp (t := fun D σ H1 => ∃ r, σ = [some (.ref p), some (.ref r)] ∧ Pk H v r 15 H1 ∧ ∀ H2, Pk H v r 16 H2 → D.nx [some (.ref p), some (.ref r)] H2) (ps_expr (pe_bm PySem.F.plainAttrs_list PySem.F.slot_list_append PySem.F.type_list_append mt_append (pv 1) (pa_cons (My.pe_xg (K := K) (by rfl) (pe_ix ix_list (pv 0) pe_int (fun _ _ => rfl))) pa_nil))) (fun D σ H1 hh => by
      obtain ⟨r, rfl, z, nx⟩ := hh
      obtain ⟨a, fs, q1, q2, q3, q4, q5, q6, q7, q8⟩ := h15 r H1 z
      walk_at "go"
      refine My.x_ixL q1 q2 ?_
      refine ⟨a, _, fs, v, rfl, q3, q4, q5, q6, ?_⟩
      show rAppend (V.ref r) [v] H1 (fun x H2 => D.nx [some (.ref p), some (.ref r)] H2)
      refine My.x_append q7 (Nat.le_of_ble_eq_true rfl) ?_
      exact nx _ q8))
    (pss_cons (PS_imp (t := fun D σ H1 => ∃ r, σ = [some (.ref p), some (.ref r)] ∧ Pk H v r 16 H1 ∧ ∀ H2, Pk H v r 17 H2 → D.nx [some (.ref p), some (.ref r)] H2) (ps_expr (pe_bm PySem.F.plainAttrs_list PySem.F.slot_list_append PySem.F.type_list_append mt_append (pv 1) (pa_cons (My.pe_xg (K := K) (by rfl) (pe_ix ix_list (pv 0) pe_int (fun _ _ => rfl))) pa_nil))) (fun D σ H1 hh => by
      obtain ⟨r, rfl, z, nx⟩ := hh
      obtain ⟨a, fs, q1, q2, q3, q4, q5, q6, q7, q8⟩ := h16 r H1 z
      walk_at "go"
      refine My.x_ixL q1 q2 ?_
      refine ⟨a, _, fs, v, rfl, q3, q4, q5, q6, ?_⟩
      show rAppend (V.ref r) [v] H1 (fun x H2 => D.nx [some (.ref p), some (.ref r)] H2)
      refine My.x_append q7 (Nat.le_of_ble_eq_true rfl) ?_
      exact nx _ q8))
    (pss_cons (PS_imp (t := fun D σ H1 => ∃ r, σ = [some (.ref p), some (.ref r)] ∧ Pk H v r 17 H1 ∧ ∀ H2, Pk H v r 18 H2 → D.nx [some (.ref p), some (.ref r)] H2) (ps_expr (pe_bm PySem.F.plainAttrs_list PySem.F.slot_list_append PySem.F.type_list_append mt_append (pv 1) (pa_cons (My.pe_xg (K := K) (by rfl) (pe_ix ix_list (pv 0) pe_int (fun _ _ => rfl))) pa_nil))) (fun D σ H1 hh => by
      obtain ⟨r, rfl, z, nx⟩ := hh
      obtain ⟨a, fs, q1, q2, q3, q4, q5, q6, q7, q8⟩ := h17 r H1 z
      walk_at "go"
      refine My.x_ixL q1 q2 ?_
      refine ⟨a, _, fs, v, rfl, q3, q4, q5, q6, ?_⟩
      show rAppend (V.ref r) [v] H1 (fun x H2 => D.nx [some (.ref p), some (.ref r)] H2)
      refine My.x_append q7 (Nat.le_of_ble_eq_true rfl) ?_
      exact nx _ q8))
    (pss_cons (PS_imp (t := fun D σ H1 => ∃ r, σ = [some (.ref p), some (.ref r)] ∧ Pk H v r 18 H1 ∧ ∀ H2, Pk H v r 19 H2 → D.nx [some (.ref p), some (.ref r)] H2) (ps_expr (pe_bm PySem.F.plainAttrs_list PySem.F.slot_list_append PySem.F.type_list_append mt_append (pv 1) (pa_cons (My.pe_xg (K := K) (by rfl) (pe_ix ix_list (pv 0) pe_int (fun _ _ => rfl))) pa_nil))) (fun D σ H1 hh => by
      obtain ⟨r, rfl, z, nx⟩ := hh
      obtain ⟨a, fs, q1, q2, q3, q4, q5, q6, q7, q8⟩ := h18 r H1 z
      walk_at "go"
      refine My.x_ixL q1 q2 ?_
      refine ⟨a, _, fs, v, rfl, q3, q4, q5, q6, ?_⟩
      show rAppend (V.ref r) [v] H1 (fun x H2 => D.nx [some (.ref p), some (.ref r)] H2)
      refine My.x_append q7 (Nat.le_of_ble_eq_true rfl) ?_
      exact nx _ q8))
    (pss_cons (PS_imp (t := fun D σ H1 => ∃ r, σ = [some (.ref p), some (.ref r)] ∧ Pk H v r 19 H1 ∧ ∀ H2, Pk H v r 20 H2 → D.nx [some (.ref p), some (.ref r)] H2) (ps_expr (pe_bm PySem.F.plainAttrs_list PySem.F.slot_list_append PySem.F.type_list_append mt_append (pv 1) (pa_cons (My.pe_xg (K := K) (by rfl) (pe_ix ix_list (pv 0) pe_int (fun _ _ => rfl))) pa_nil))) (fun D σ H1 hh => by
      obtain ⟨r, rfl, z, nx⟩ := hh
      obtain ⟨a, fs, q1, q2, q3, q4, q5, q6, q7, q8⟩ := h19 r H1 z
      walk_at "go"
      refine My.x_ixL q1 q2 ?_
      refine ⟨a, _, fs, v, rfl, q3, q4, q5, q6, ?_⟩
      show rAppend (V.ref r) [v] H1 (fun x H2 => D.nx [some (.ref p), some (.ref r)] H2)
      refine My.x_append q7 (Nat.le_of_ble_eq_true rfl) ?_
      exact nx _ q8))
    (pss_cons (PS_imp (t := fun D σ H1 => ∃ r, σ = [some (.ref p), some (.ref r)] ∧ Pk H v r 20 H1 ∧ ∀ H2, Pk H v r 21 H2 → D.nx [some (.ref p), some (.ref r)] H2) (ps_expr (pe_bm PySem.F.plainAttrs_list PySem.F.slot_list_append PySem.F.type_list_append mt_append (pv 1) (pa_cons (My.pe_xg (K := K) (by rfl) (pe_ix ix_list (pv 0) pe_int (fun _ _ => rfl))) pa_nil))) (fun D σ H1 hh => by
      obtain ⟨r, rfl, z, nx⟩ := hh
      obtain ⟨a, fs, q1, q2, q3, q4, q5, q6, q7, q8⟩ := h20 r H1 z
      walk_at "go"
      refine My.x_ixL q1 q2 ?_
      refine ⟨a, _, fs, v, rfl, q3, q4, q5, q6, ?_⟩
      show rAppend (V.ref r) [v] H1 (fun x H2 => D.nx [some (.ref p), some (.ref r)] H2)
      refine My.x_append q7 (Nat.le_of_ble_eq_true rfl) ?_
      exact nx _ q8))
    (pss_cons (PS_imp (t := fun D σ H1 => ∃ r, σ = [some (.ref p), some (.ref r)] ∧ Pk H v r 21 H1 ∧ ∀ H2, Pk H v r 22 H2 → D.nx [some (.ref p), some (.ref r)] H2) (ps_expr (pe_bm PySem.F.plainAttrs_list PySem.F.slot_list_append PySem.F.type_list_append mt_append (pv 1) (pa_cons (My.pe_xg (K := K) (by rfl) (pe_ix ix_list (pv 0) pe_int (fun _ _ => rfl))) pa_nil))) (fun D σ H1 hh => by
      obtain ⟨r, rfl, z, nx⟩ := hh
      obtain ⟨a, fs, q1, q2, q3, q4, q5, q6, q7, q8⟩ := h21 r H1 z
      walk_at "go"
      refine My.x_ixL q1 q2 ?_
      refine ⟨a, _, fs, v, rfl, q3, q4, q5, q6, ?_⟩
      show rAppend (V.ref r) [v] H1 (fun x H2 => D.nx [some (.ref p), some (.ref r)] H2)
      refine My.x_append q7 (Nat.le_of_ble_eq_true rfl) ?_
      exact nx _ q8))
    (pss_cons (PS_imp (t := fun D σ H1 => ∃ r, σ = [some (.ref p), some (.ref r)] ∧ Pk H v r 22 H1 ∧ ∀ H2, Pk H v r 23 H2 → D.nx [some (.ref p), some (.ref r)] H2) (ps_expr (pe_bm PySem.F.plainAttrs_list PySem.F.slot_list_append PySem.F.type_list_append mt_append (pv 1) (pa_cons (My.pe_xg (K := K) (by rfl) (pe_ix ix_list (pv 0) pe_int (fun _ _ => rfl))) pa_nil))) (fun D σ H1 hh => by
      obtain ⟨r, rfl, z, nx⟩ := hh
      obtain ⟨a, fs, q1, q2, q3, q4, q5, q6, q7, q8⟩ := h22 r H1 z
      walk_at "go"
      refine My.x_ixL q1 q2 ?_
      refine ⟨a, _, fs, v, rfl, q3, q4, q5, q6, ?_⟩
      show rAppend (V.ref r) [v] H1 (fun x H2 => D.nx [some (.ref p), some (.ref r)] H2)
      refine My.x_append q7 (Nat.le_of_ble_eq_true rfl) ?_
      exact nx _ q8))
    (pss_cons (PS_imp (t := fun D σ H1 => ∃ r, σ = [some (.ref p), some (.ref r)] ∧ Pk H v r 23 H1 ∧ ∀ H2, Pk H v r 24 H2 → D.nx [some (.ref p), some (.ref r)] H2) (ps_expr (pe_bm PySem.F.plainAttrs_list PySem.F.slot_list_append PySem.F.type_list_append mt_append (pv 1) (pa_cons (My.pe_xg (K := K) (by rfl) (pe_ix ix_list (pv 0) pe_int (fun _ _ => rfl))) pa_nil))) (fun D σ H1 hh => by
      obtain ⟨r, rfl, z, nx⟩ := hh
      obtain ⟨a, fs, q1, q2, q3, q4, q5, q6, q7, q8⟩ := h23 r H1 z
      walk_at "go"
      refine My.x_ixL q1 q2 ?_
      refine ⟨a, _, fs, v, rfl, q3, q4, q5, q6, ?_⟩
      show rAppend (V.ref r) [v] H1 (fun x H2 => D.nx [some (.ref p), some (.ref r)] H2)
      refine My.x_append q7 (Nat.le_of_ble_eq_true rfl) ?_
      exact nx _ q8))
    (pss_cons (PS_imp (t := fun D σ H1 => ∃ r, σ = [some (.ref p), some (.ref r)] ∧ Pk H v r 24 H1 ∧ ∀ H2, Pk H v r 25 H2 → D.nx [some (.ref p), some (.ref r)] H2) (ps_expr (pe_bm PySem.F.plainAttrs_list PySem.F.slot_list_append PySem.F.type_list_append mt_append (pv 1) (pa_cons (My.pe_xg (K := K) (by rfl) (pe_ix ix_list (pv 0) pe_int (fun _ _ => rfl))) pa_nil))) (fun D σ H1 hh => by
      obtain ⟨r, rfl, z, nx⟩ := hh
      obtain ⟨a, fs, q1, q2, q3, q4, q5, q6, q7, q8⟩ := h24 r H1 z
      walk_at "go"
      refine My.x_ixL q1 q2 ?_
      refine ⟨a, _, fs, v, rfl, q3, q4, q5, q6, ?_⟩
      show rAppend (V.ref r) [v] H1 (fun x H2 => D.nx [some (.ref p), some (.ref r)] H2)
      refine My.x_append q7 (Nat.le_of_ble_eq_true rfl) ?_
      exact nx _ q8))
    (pss_cons (PS_imp (t := fun D σ H1 => ∃ r, σ = [some (.ref p), some (.ref r)] ∧ Pk H v r 25 H1 ∧ ∀ H2, Pk H v r 26 H2 → D.nx [some (.ref p), some (.ref r)] H2) (ps_expr (pe_bm PySem.F.plainAttrs_list PySem.F.slot_list_append PySem.F.type_list_append mt_append (pv 1) (pa_cons (My.pe_xg (K := K) (by rfl) (pe_ix ix_list (pv 0) pe_int (fun _ _ => rfl))) pa_nil))) (fun D σ H1 hh => by
      obtain ⟨r, rfl, z, nx⟩ := hh
      obtain ⟨a, fs, q1, q2, q3, q4, q5, q6, q7, q8⟩ := h25 r H1 z
      walk_at "go"
      refine My.x_ixL q1 q2 ?_
      refine ⟨a, _, fs, v, rfl, q3, q4, q5, q6, ?_⟩
      show rAppend (V.ref r) [v] H1 (fun x H2 => D.nx [some (.ref p), some (.ref r)] H2)
      refine My.x_append q7 (Nat.le_of_ble_eq_true rfl) ?_
      exact nx _ q8))
    (pss_cons (PS_imp (t := fun D σ H1 => ∃ r, σ = [some (.ref p), some (.ref r)] ∧ Pk H v r 26 H1 ∧ ∀ H2, Pk H v r 27 H2 → D.nx [some (.ref p), some (.ref r)] H2) (ps_expr (pe_bm PySem.F.plainAttrs_list PySem.F.slot_list_append PySem.F.type_list_append mt_append (pv 1) (pa_cons (My.pe_xg (K := K) (by rfl) (pe_ix ix_list (pv 0) pe_int (fun _ _ => rfl))) pa_nil))) (fun D σ H1 hh => by
      obtain ⟨r, rfl, z, nx⟩ := hh
      obtain ⟨a, fs, q1, q2, q3, q4, q5, q6, q7, q8⟩ := h26 r H1 z
      walk_at "go"
      refine My.x_ixL q1 q2 ?_
      refine ⟨a, _, fs, v, rfl, q3, q4, q5, q6, ?_⟩
      show rAppend (V.ref r) [v] H1 (fun x H2 => D.nx [some (.ref p), some (.ref r)] H2)
      refine My.x_append q7 (Nat.le_of_ble_eq_true rfl) ?_
      exact nx _ q8))
    (pss_cons (PS_imp (t := fun D σ H1 => ∃ r, σ = [some (.ref p), some (.ref r)] ∧ Pk H v r 27 H1 ∧ ∀ H2, Pk H v r 28 H2 → D.nx [some (.ref p), some (.ref r)] H2) (ps_expr (pe_bm PySem.F.plainAttrs_list PySem.F.slot_list_append PySem.F.type_list_append mt_append (pv 1) (pa_cons (My.pe_xg (K := K) (by rfl) (pe_ix ix_list (pv 0) pe_int (fun _ _ => rfl))) pa_nil))) (fun D σ H1 hh => by
      obtain ⟨r, rfl, z, nx⟩ := hh
      obtain ⟨a, fs, q1, q2, q3, q4, q5, q6, q7, q8⟩ := h27 r H1 z
      walk_at "go"
      refine My.x_ixL q1 q2 ?_
      refine ⟨a, _, fs, v, rfl, q3, q4, q5, q6, ?_⟩
      show rAppend (V.ref r) [v] H1 (fun x H2 => D.nx [some (.ref p), some (.ref r)] H2)
      refine My.x_append q7 (Nat.le_of_ble_eq_true rfl) ?_
      exact nx _ q8))
    (pss_cons (PS_imp (t := fun D σ H1 => ∃ r, σ = [some (.ref p), some (.ref r)] ∧ Pk H v r 28 H1 ∧ ∀ H2, Pk H v r 29 H2 → D.nx [some (.ref p), some (.ref r)] H2) (ps_expr (pe_bm PySem.F.plainAttrs_list PySem.F.slot_list_append PySem.F.type_list_append mt_append (pv 1) (pa_cons (My.pe_xg (K := K) (by rfl) (pe_ix ix_list (pv 0) pe_int (fun _ _ => rfl))) pa_nil))) (fun D σ H1 hh => by
      obtain ⟨r, rfl, z, nx⟩ := hh
      obtain ⟨a, fs, q1, q2, q3, q4, q5, q6, q7, q8⟩ := h28 r H1 z
      walk_at "go"
      refine My.x_ixL q1 q2 ?_
      refine ⟨a, _, fs, v, rfl, q3, q4, q5, q6, ?_⟩
      show rAppend (V.ref r) [v] H1 (fun x H2 => D.nx [some (.ref p), some (.ref r)] H2)
      refine My.x_append q7 (Nat.le_of_ble_eq_true rfl) ?_
      exact nx _ q8))
    (pss_cons (PS_imp (t := fun D σ H1 => ∃ r, σ = [some (.ref p), some (.ref r)] ∧ Pk H v r 29 H1 ∧ ∀ H2, Pk H v r 30 H2 → D.nx [some (.ref p), some (.ref r)] H2) (ps_expr (pe_bm PySem.F.plainAttrs_list PySem.F.slot_list_append PySem.F.type_list_append mt_append (pv 1) (pa_cons (My.pe_xg (K := K) (by rfl) (pe_ix ix_list (pv 0) pe_int (fun _ _ => rfl))) pa_nil))) (fun D σ H1 hh => by
      obtain ⟨r, rfl, z, nx⟩ := hh
      obtain ⟨a, fs, q1, q2, q3, q4, q5, q6, q7, q8⟩ := h29 r H1 z
      walk_at "go"
      refine My.x_ixL q1 q2 ?_
      refine ⟨a, _, fs, v, rfl, q3, q4, q5, q6, ?_⟩
      show rAppend (V.ref r) [v] H1 (fun x H2 => D.nx [some (.ref p), some (.ref r)] H2)
      refine My.x_append q7 (Nat.le_of_ble_eq_true rfl) ?_
      exact nx _ q8))
    (pss_cons (PS_imp (t := fun D σ H1 => ∃ r, σ = [some (.ref p), some (.ref r)] ∧ Pk H v r 30 H1 ∧ ∀ H2, Pk H v r 31 H2 → D.nx [some (.ref p), some (.ref r)] H2) (ps_expr (pe_bm PySem.F.plainAttrs_list PySem.F.slot_list_append PySem.F.type_list_append mt_append (pv 1) (pa_cons (My.pe_xg (K := K) (by rfl) (pe_ix ix_list (pv 0) pe_int (fun _ _ => rfl))) pa_nil))) (fun D σ H1 hh => by
      obtain ⟨r, rfl, z, nx⟩ := hh
      obtain ⟨a, fs, q1, q2, q3, q4, q5, q6, q7, q8⟩ := h30 r H1 z
      walk_at "go"
      refine My.x_ixL q1 q2 ?_
      refine ⟨a, _, fs, v, rfl, q3, q4, q5, q6, ?_⟩
      show rAppend (V.ref r) [v] H1 (fun x H2 => D.nx [some (.ref p), some (.ref r)] H2)
      refine My.x_append q7 (Nat.le_of_ble_eq_true rfl) ?_
      exact nx _ q8))
    (pss_one (ps_ret (pv 1))))))))))))))))))))))))))))))))))), ?_⟩
    refine My.x_start (σ := [some (V.ref p), none]) rfl ?_
    try dsimp only [cxOf, Cx.nox]
    walk_at "go"
    intro r hr0
    have z0 : Pk H v r 0 (upd H r (.lst [])) := ⟨My.Same.new (Same.refl H) hr0, upd_same, hr0⟩
    exact ⟨r, rfl, z0, fun _ z1 => ⟨r, rfl, z1, fun _ z2 => ⟨r, rfl, z2, fun _ z3 => ⟨r, rfl, z3, fun _ z4 => ⟨r, rfl, z4, fun _ z5 => ⟨r, rfl, z5, fun _ z6 => ⟨r, rfl, z6, fun _ z7 => ⟨r, rfl, z7, fun _ z8 => ⟨r, rfl, z8, fun _ z9 => ⟨r, rfl, z9, fun _ z10 => ⟨r, rfl, z10, fun _ z11 => ⟨r, rfl, z11, fun _ z12 => ⟨r, rfl, z12, fun _ z13 => ⟨r, rfl, z13, fun _ z14 => ⟨r, rfl, z14, fun _ z15 => ⟨r, rfl, z15, fun _ z16 => ⟨r, rfl, z16, fun _ z17 => ⟨r, rfl, z17, fun _ z18 => ⟨r, rfl, z18, fun _ z19 => ⟨r, rfl, z19, fun _ z20 => ⟨r, rfl, z20, fun _ z21 => ⟨r, rfl, z21, fun _ z22 => ⟨r, rfl, z22, fun _ z23 => ⟨r, rfl, z23, fun _ z24 => ⟨r, rfl, z24, fun _ z25 => ⟨r, rfl, z25, fun _ z26 => ⟨r, rfl, z26, fun _ z27 => ⟨r, rfl, z27, fun _ z28 => ⟨r, rfl, z28, fun _ z29 => ⟨r, rfl, z29, fun _ z30 => ⟨r, rfl, z30, fun _ z31 => ⟨_, rfl, q r _ z31.1 z31.2.1⟩⟩⟩⟩⟩⟩⟩⟩⟩⟩⟩⟩⟩⟩⟩⟩⟩⟩⟩⟩⟩⟩⟩⟩⟩⟩⟩⟩⟩⟩⟩⟩
end
end K36

end

section
set_option maxHeartbeats 4000000
local macro_rules | `(tactic| walk_at "ne") => `(tactic| first | assumption | (apply Ne.symm; assumption) | exact L2.ne_of_none (by assumption) (by assumption) | exact (L2.ne_of_none (by assumption) (by assumption)).symm)
local macro_rules | `(tactic| walk_at "hp") => `(tactic| first | assumption | exact L2.upd_same | (rw [L2.upd_ne (by walk_at "ne")]; walk_at "hp"))
local macro_rules | `(tactic| walk_at "sq") => `(tactic| first | assumption | exact L2.SqL.of (by walk_at "hp") | exact My.sq_new (by walk_at "sq") (by assumption))
local macro_rules | `(tactic| walk_at "sd") => `(tactic| first | decide | omega | (unfold L2.CDivN; omega) | (unfold L2.CMul; omega) | (unfold L2.CPow; omega))
local macro_rules | `(tactic| walk_at "sx1") => `(tactic| first | with_reducible refine My.x_seq ?_ | with_reducible refine My.x_asg ?_ | with_reducible refine My.x_ret ?_ | with_reducible refine My.x_next ?_ | with_reducible refine My.x_op ?_ | with_reducible refine My.x_c ?_ | with_reducible refine My.x_ifs ?_ | with_reducible refine My.x_test ?_ | with_reducible refine My.x_exbl ?_ | with_reducible refine My.x_cons ?_ | with_reducible refine My.x_nil ?_ | with_reducible refine My.x_cb ?_ | with_reducible refine My.x_drop ?_ | with_reducible refine My.x_par ?_ | with_reducible refine My.x_exp2 ?_ | with_reducible refine My.x_aug ?_ | with_reducible refine My.x_if ?_ | with_reducible refine My.x_tB ?_ | with_reducible refine My.x_and ?_ | with_reducible refine My.x_or ?_ | with_reducible refine My.x_not ?_ | with_reducible refine My.x_retn ?_ | with_reducible refine My.x_cont ?_ | with_reducible refine My.x_brk ?_ | with_reducible refine My.x_un ?_ | with_reducible refine My.x_tfor ?_ | with_reducible refine My.x_ilist ?_ | with_reducible refine My.x_rng1 ?_ | with_reducible refine My.x_rng2 ?_ | with_reducible refine My.x_r1 ?_ | with_reducible refine My.x_call ?_ | with_reducible refine My.x_sl ?_ | with_reducible refine My.x_part ?_ | with_reducible refine My.x_nopart ?_ | with_reducible refine My.x_ii0 ?_ | with_reducible refine My.x_yes ?_ | with_reducible refine My.x_andv ?_ | with_reducible refine My.x_orv ?_ | with_reducible refine My.x_notv ?_ | with_reducible refine My.x_iT ?_ | with_reducible refine My.x_iF ?_ | with_reducible refine My.x_chain ?_ | with_reducible refine My.x_exI ?_ | with_reducible refine My.x_wipe ?_ | with_reducible refine My.x_bm ?_ | with_reducible refine My.x_bm0 ?_ | with_reducible refine My.x_gsub ?_ | with_reducible refine My.x_int1 ?_ | with_reducible refine My.x_two ?_ | with_reducible refine My.x_lst ?_ | with_reducible refine My.x_tup ?_ | with_reducible refine My.x_revL ?_ | with_reducible refine My.x_dput ?_ | with_reducible refine My.x_dget ?_ | with_reducible refine My.x_dnew ?_ | with_reducible refine My.x_dc ?_ | with_reducible refine My.x_lc ?_ | with_reducible refine My.x_ienum ?_ | with_reducible refine My.x_gcons ?_ | with_reducible refine My.x_gnil ?_ | with_reducible refine My.x_v0 ?_ | with_reducible refine My.x_v1 ?_ | with_reducible refine My.x_v2 ?_ | with_reducible refine My.x_v3 ?_ | with_reducible refine My.x_v4 ?_ | with_reducible refine My.x_v5 ?_ | with_reducible refine My.x_v6 ?_ | with_reducible refine My.x_v7 ?_ | with_reducible refine My.x_v8 ?_ | with_reducible refine My.x_v9 ?_ | with_reducible refine My.x_v10 ?_ | with_reducible refine My.x_v11 ?_ | with_reducible refine My.x_v12 ?_ | with_reducible refine My.x_v13 ?_ | with_reducible refine My.x_v14 ?_ | with_reducible refine My.x_v15 ?_ | with_reducible refine My.x_v16 ?_ | with_reducible refine My.x_v17 ?_ | with_reducible refine My.x_v18 ?_ | with_reducible refine My.x_v19 ?_ | with_reducible refine My.x_v20 ?_ | with_reducible refine My.x_v21 ?_ | with_reducible refine My.x_v22 ?_ | with_reducible refine My.x_v23 ?_ | with_reducible refine My.x_v24 ?_ | with_reducible refine My.x_v25 ?_ | with_reducible refine My.x_g0 ?_ | with_reducible refine My.x_g1 ?_ | with_reducible refine My.x_g2 ?_ | with_reducible refine My.x_g3 ?_ | with_reducible refine My.x_g4 ?_ | with_reducible refine My.x_g5 ?_ | with_reducible refine My.x_g6 ?_ | with_reducible refine My.x_g7 ?_ | with_reducible refine My.x_g8 ?_ | with_reducible refine My.x_g9 ?_ | with_reducible refine My.x_g10 ?_ | with_reducible refine My.x_g11 ?_ | with_reducible refine My.x_g12 ?_ | with_reducible refine My.x_g13 ?_ | with_reducible refine My.x_g14 ?_ | with_reducible refine My.x_g15 ?_ | with_reducible refine My.x_g16 ?_ | with_reducible refine My.x_g17 ?_ | with_reducible refine My.x_g18 ?_ | with_reducible refine My.x_g19 ?_ | with_reducible refine My.x_g20 ?_ | with_reducible refine My.x_g21 ?_ | with_reducible refine My.x_g22 ?_ | with_reducible refine My.x_g23 ?_ | with_reducible refine My.x_g24 ?_ | with_reducible refine My.x_g25 ?_)
local macro_rules | `(tactic| walk_at "sx") => `(tactic| repeat (walk_at "sx1"))
local macro_rules | `(tactic| walk_at "ln") => `(tactic| first | assumption | exact Nat.le_of_ble_eq_true rfl | (simp only [List.length_append, List.length_map, List.length_cons, List.length_nil]; simp only [PySem.sizeLine]; omega))
local macro_rules | `(tactic| walk_at "st") => `(tactic| first | assumption | exact L2.SqT.of (by walk_at "hp"))
local macro_rules | `(tactic| walk_at "go1") => `(tactic| first | walk_at "sx1" | ((with_reducible refine' My.x_ixL ?x0 ?x1 ?x2); (case x0 => walk_at "sq"); (case x1 => exact rfl)) | ((with_reducible refine' My.x_ixT ?x0 ?x1 ?x2); (case x0 => walk_at "st"); (case x1 => exact rfl)) | ((with_reducible refine' My.x_i ?x0 ?x1); (case x0 => walk_at "sd")) | ((with_reducible refine' My.x_setL ?x0 ?x1 ?x2); (case x0 => walk_at "hp"); (case x1 => exact rfl)) | ((with_reducible refine' My.x_len ?x0 ?x1); (case x0 => walk_at "sq")) | ((with_reducible refine' My.x_lenT ?x0 ?x1); (case x0 => walk_at "st")) | ((with_reducible refine' My.x_lenD ?x0 ?x1); (case x0 => walk_at "hp")) | ((with_reducible refine' My.x_append ?x0 ?x1 ?x2); (case x0 => walk_at "hp"); (case x1 => walk_at "ln")) | ((with_reducible refine' My.x_tyL ?x0 ?x1); (case x0 => walk_at "hp")) | ((with_reducible refine' My.x_ilistE ?x0 ?x1); (case x0 => walk_at "sq")) | ((with_reducible refine' My.x_ienumE ?x0 ?x1); (case x0 => walk_at "sq")) | ((with_reducible refine' My.x_sortI ?x0 ?x1); (case x0 => walk_at "sq")) | ((with_reducible refine' My.x_slL ?x0 ?x1); (case x0 => walk_at "sq")) | ((with_reducible refine' My.x_revL2 ?x0 ?x1); (case x0 => walk_at "sq")) | ((with_reducible refine' My.x_eq ?x0 ?x1); (case x0 => exact rfl)) | ((with_reducible refine' My.x_ne ?x0 ?x1); (case x0 => exact rfl)) | ((with_reducible refine' My.x_dputI ?x0 ?x1 ?x2); (case x0 => walk_at "hp"); (case x1 => walk_at "ln")) | ((with_reducible refine' My.x_dputS ?x0 ?x1 ?x2); (case x0 => walk_at "hp"); (case x1 => walk_at "ln")) | ((with_reducible refine' My.x_seqof ?x0 ?x1); (case x0 => walk_at "sq")) | ((with_reducible refine' My.x_gtup ?x0 ?x1 ?x2); (case x0 => walk_at "st"); (case x1 => exact rfl)) | ((with_reducible refine' My.x_mem1 ?x0 ?x1); (case x0 => walk_at "ln")))
local macro_rules | `(tactic| walk_at "go") => `(tactic| repeat (walk_at "go1"))
local macro_rules | `(tactic| walk_at "sx1") => `(tactic| first | with_reducible refine My.x_gx ?_ | with_reducible refine My.x_gxK ?_ | with_reducible refine My.x_gi ?_ | with_reducible refine My.x_gst ?_ | with_reducible refine My.x_xg ?_ | with_reducible refine My.x_nF ?_ | with_reducible refine My.x_nT ?_)
namespace K36
open PySem PySem.Spec PyProof.Rows L2
/-! ### keywords the other way about -/
structure GcR (P : Program) (w : World) (K : PySem.W.Frag) (mg : Str → Option Value) (base : Heap) (x : Str) (newId : String) (bmB : List Value) (ps : List Str) (sp : Sp) : Prop where
  ex : ∃ fd, My.GxC P w K mg base x newId bmB fd ps 1 sp ∧ ∀ (s' : Shared) (a : Addr) (ws : List Value), ws.length = (ps.drop 1).reverse.length → BindsTo s' fd ⟨[.ref a], (ps.drop 1).reverse.zip ws⟩ (ps.zip (.ref a :: ws.reverse))
section
variable {X : Cx} {x : Str} {B newId initId : String} {bmB : List Value} {ps : List Str} {sp : Sp} {kws : List Keyword} {ta : TA} {p pos : Pos}
theorem pe_gcR (G : GcR X.prog X.w X.K X.mg X.base x newId bmB ps sp) (F : My.BsF B newId initId bmB) (hr : Room 2 X.A) (hkw : PK X kws ta) (hg : Gl X x)
    (hall : (backToKw pos (keywordEach kws X.env)).all (·.1.isSome) = true := by rfl) (hks : (backToKw pos (keywordEach kws X.env)).filterMap (·.1) = (ps.drop 1).reverse := by rfl) (hdb : (x == ("__debug__" : Str)) = false := by decide)
    (hpl : ((backTo pos (starEach [] X.env)).any (·.1) || (backToKw pos (keywordEach kws X.env)).any (·.1.isNone)) = false := by rfl) :
    PE X (.Call (.Name x p) [] kws pos) (My.tGxK (He.ga X.K x) (ps.drop 1).reverse.length List.reverse sp ta) := by
  obtain ⟨fd, G, kb⟩ := G.ex
  exact My.pe_gxK (g := List.reverse) (gV := List.reverse) (ks := (ps.drop 1).reverse) G F hr kb (fun r => Vals.reverse r) hkw hg hall hks hdb hpl
end
theorem toR {sp : Sp} {C : Addr} {vs : List V} {H : Hp} {Q : VK} {n : Nat} (h : My.GxR C sp vs.reverse H Q) (l : vs.length = n) : My.GxKR C n List.reverse sp vs H Q := ⟨l, h.2⟩
def sp_true : Sp := fun vs H Q _ => vs = [] ∧ ∀ H', Same H H' → Q (.bl true) H'
/-- a row of two -/
def Row (H : Hp) (q : Addr) : Prop := H q = some (.lst [.str ("n" : Str), .int 5])
theorem rows_dp {K : PySem.W.Frag} {H : Hp} : ∀ {qs : List Addr}, (∀ q ∈ qs, Row H q) → DpAll K H (qs.map V.ref) (List.replicate qs.length (.list [.str ("n" : Str), .int 5]))
  | [], _ => .nil
  | q :: r, h => .cons (.lst (SqL.of (h q List.mem_cons_self)) (.cons (.str _) (.cons (.int _) .nil))) (rows_dp fun q hq => h q (List.mem_cons_of_mem _ hq))
/-- the comprehension's list so far -/
def Pc (H0 : Hp) (D : Addr) (n : Nat) (H : Hp) : Prop := Same H0 H ∧ ∃ qs : List Addr, H D = some (.lst (qs.map V.ref)) ∧ qs.length = n ∧ (∀ q ∈ qs, Row H q) ∧ H0 D = none
theorem Pc.next {H0 H : Hp} {D p : Addr} {n : Nat} (z : Pc H0 D n H) (hp : H p = none) : ∃ acc, upd H p (.lst [.str ("n" : Str), .int 5]) D = some (.lst acc) ∧ (acc.length = n) ∧ Pc H0 D (n + 1) (upd (upd H p (.lst [.str ("n" : Str), .int 5])) D (.lst (acc ++ [.ref p]))) := by
  obtain ⟨S, qs, g, l, rw, h0⟩ := z
  have hD : D ≠ p := ne_of_none g hp
  refine ⟨qs.map V.ref, by rw [upd_ne hD]; exact g, by rw [List.length_map]; exact l, My.Same.mut (My.Same.new S hp) h0, qs ++ [p], by rw [upd_same, List.map_append]; rfl, by rw [List.length_append, l]; rfl, fun q hq => ?_, h0⟩
  rcases List.mem_append.mp hq with hq | hq
  · have e := rw q hq
    have n1 : q ≠ p := ne_of_none e hp
    have n2 : q ≠ D := fun z => by
      rw [z, Row, g] at e
      have := Option.some.inj e
      injection this with this
      rcases qs with _ | ⟨y, t⟩
      · cases this
      · cases this
    show upd _ _ _ q = _
    rw [upd_ne n2, upd_ne n1]
    exact e
  · obtain rfl := List.mem_singleton.mp hq
    show upd _ _ _ q = _
    rw [upd_ne hD.symm, upd_same]
section
variable {P : Program} {w : World} {K : PySem.W.Frag} {mg : Str → Option Value} {base : Heap}
theorem ok_parts (T : Tx K mg) (TF : TabF K) (G_Damaged : GcX P w K mg base "Damaged" bnRE bmRE ["self", "name", "index"] (My.sp_e2 K "Damaged" "name" "index")) (G_DamagedR : GcR P w K mg base "Damaged" bnRE bmRE ["self", "name", "index"] (My.sp_e2 K "Damaged" "name" "index"))
    {fd : FuncData} (F : Fd K d_law_parts_apart fd) : FnOk P w K mg base CX0 3 (He.ga K "_law_parts_apart") fd [] sp_true := by
  refine F.ok sc_law_parts_apart (fun vs H Q E h => ?_) (fun cdv A outer s H vs Q E hr h => ?_)
  · obtain ⟨rfl, _⟩ := h
    rfl
  · obtain ⟨rfl, q⟩ := h
    have nN := TF.no 18 (by decide) "name" (by decide +kernel)
    have nI := TF.no 18 (by decide) "index" (by decide +kernel)
    refine ⟨_, PSs.nox ((pss_cons (ps_set (i := 0) sc_law_parts_apart.nd rfl (Or.inl rfl) (pe_lst (pa_cons (My.pe_gc G_Damaged My.bs_RE (hr.mono (by decide)) (pa_cons pe_str (pa_cons pe_int pa_nil)) rfl) (pa_cons (pe_gcR G_DamagedR My.bs_RE (hr.mono (by decide)) (pk_cons pe_int (pk_cons pe_str pk_nil)) rfl) pa_nil))))
  (pss_one (ps_ret (pe_cmpR (op_eqD hr.units) (pe_lc (own := [("_law_one", 1)]) (g := gName 1) (tt := tYes) rfl sc_law_parts_apart.nd (pi_list (pv 0)) (blkOk_by (own := [("_law_one", 1)]) (N := ["_law_rows", "_law_one"]) (sc := defScope s_law_parts_apart) (by decide +kernel)) (fun _ _ _ _ _ => pg_name (i := 1) sc_law_parts_apart.nd rfl (Or.inl rfl)) (fun _ _ _ _ _ => pts_nil) (fun _ _ _ _ _ => (pe_lst (pa_cons (My.pe_xg (K := K) (by rfl) (pv 1)) (pa_cons (My.pe_xg (K := K) (by rfl) (pv 1)) pa_nil))))) (pe_op op_rep (pe_lst (pa_cons (pe_lst (pa_cons pe_str (pa_cons pe_int pa_nil))) pa_nil)) pe_int) (nomark _)))))), ?_⟩
    refine My.x_start (σ := [none, none]) rfl ?_
    try dsimp only [cxOf, Cx.nox]
    walk_at "go"
    refine My.gx2 fun a1 H1 ha1 k1 x1 => ?_
    walk_at "go"
    refine toR (My.gx2 fun a2 H2 ha2 k2 x2 => ?_) rfl
    replace x1 := x1.same k2
    have S : Same H H2 := k1.trans k2
    clear k1 k2 ha1 ha2
    walk_at "go"
    intro r hr2
    have k3 := My.Same.new (o := .lst [V.ref a1, V.ref a2]) (Same.refl H2) hr2
    have gr : upd H2 r (.lst [V.ref a1, V.ref a2]) r = some (.lst [V.ref a1, V.ref a2]) := upd_same
    generalize upd H2 r (.lst [V.ref a1, V.ref a2]) = H3 at k3 gr ⊢
    replace S := S.trans k3
    replace x1 := x1.same k3
    replace x2 := x2.same k3
    clear k3 hr2
    walk_at "go"
    intro D hD
    refine My.lc_runs (My.runs_list (K := K) (a := r) id [V.ref a1, V.ref a2]) (fun pre H' => Pc H3 D pre.length H') ⟨My.Same.new (Same.refl H3) hD, [], upd_same, rfl, (fun q hq => nomatch hq), hD⟩ (fun pre post H' _ z => SqL.of (z.1 _ _ gr)) ?_ ?_
    · rintro pre x post H4 v H5 hpre z ⟨rfl, rfl⟩
      have hx : ∃ a, v = .ref a ∧ My.ExAt H5 a (He.ga K "Damaged") [(("index" : Str), .int 5), (("name" : Str), .str ("n" : Str))] := by
        have hm : v ∈ [V.ref a1, V.ref a2] := by rw [hpre]; simp
        simp only [List.mem_cons, List.not_mem_nil, or_false] at hm
        rcases hm with rfl | rfl
        · exact ⟨_, rfl, x1.same z.1⟩
        · exact ⟨_, rfl, x2.same z.1⟩
      obtain ⟨a, rfl, xa⟩ := hx
      have l2 : pre.length < 2 := by
        have := congrArg List.length hpre
        simp at this
        omega
      walk_at "go"
      refine ⟨rfl, ?_⟩
      walk_at "go"
      refine ⟨_, rfl, ?_⟩
      refine ⟨a, _, _, _, rfl, xa, TF.xf 18 (by decide), nN, rfl, ?_⟩
      walk_at "go"
      refine ⟨_, rfl, ?_⟩
      refine ⟨a, _, _, _, rfl, xa, TF.xf 18 (by decide), nI, rfl, ?_⟩
      walk_at "go"
      intro p hp
      obtain ⟨acc, g1, g2, g3⟩ := z.next hp
      refine ⟨acc, g1, by rw [g2, sizeLine_eq]; omega, ?_⟩
      rw [List.length_append]
      exact g3
    · rintro H4 ⟨S4, qs, gD, lq, hq, _⟩
      replace S := S.trans S4
      clear S4
      walk_at "go"
      intro p hp
      have k5 := My.Same.new (o := .lst [.str ("n" : Str), .int 5]) (Same.refl H4) hp
      have gp : upd H4 p (.lst [.str ("n" : Str), .int 5]) p = some (.lst [.str ("n" : Str), .int 5]) := upd_same
      generalize upd H4 p (.lst [.str ("n" : Str), .int 5]) = H5 at k5 gp ⊢
      replace S := S.trans k5
      replace gD := k5 _ _ gD
      replace hq : ∀ q ∈ qs, Row H5 q := fun q h => k5 _ _ (hq q h)
      clear k5 hp
      walk_at "go"
      intro t ht
      have k6 := My.Same.new (o := .lst [V.ref p]) (Same.refl H5) ht
      have gt : upd H5 t (.lst [V.ref p]) t = some (.lst [V.ref p]) := upd_same
      generalize upd H5 t (.lst [V.ref p]) = H6 at k6 gt ⊢
      replace S := S.trans k6
      replace gD := k6 _ _ gD
      replace gp := k6 _ _ gp
      replace hq : ∀ q ∈ qs, Row H6 q := fun q h => k6 _ _ (hq q h)
      clear k6 ht
      walk_at "go"
      refine ⟨t, 2, _, rfl, rfl, gt, by decide, by decide, Nat.le_of_ble_eq_true rfl, fun u hu => ?_⟩
      have k7 := My.Same.new (o := .lst (List.replicate (2 : Int).toNat [V.ref p]).flatten) (Same.refl H6) hu
      have gu : upd H6 u (.lst (List.replicate (2 : Int).toNat [V.ref p]).flatten) u = some (.lst ([p, p].map V.ref)) := upd_same
      generalize upd H6 u (.lst (List.replicate (2 : Int).toNat [V.ref p]).flatten) = H7 at k7 gu ⊢
      replace S := S.trans k7
      replace gD := k7 _ _ gD
      replace gp := k7 _ _ gp
      replace hq : ∀ q ∈ qs, Row H7 q := fun q h => k7 _ _ (hq q h)
      have d1 := rows_dp (K := K) hq
      have d2 := rows_dp (K := K) (H := H7) (qs := [p, p]) (fun q h => by
        have : q = p := by simpa using h
        rw [this]; exact gp)
      rw [lq] at d1
      have d1 : DpAll K H7 (qs.map V.ref) (List.replicate 2 (.list [.str ("n" : Str), .int 5])) := d1
      have d2 : DpAll K H7 ([p, p].map V.ref) (List.replicate 2 (.list [.str ("n" : Str), .int 5])) := d2
      exact ⟨_, _, .lst (SqL.of gD) d1, .lst (SqL.of gu) d2, by decide +kernel, by decide +kernel, by
        have e : PyData.eqv (.list (List.replicate 2 (.list [.str ("n" : Str), .int 5]))) (.list (List.replicate 2 (.list [.str ("n" : Str), .int 5]))) = true := by decide +kernel
        rw [e]
        exact q _ S⟩
end
/-! ### repr of a list that holds one thing many times -/
/-- what is held: data without dicts, or an empty dict -/
def Hel (K : PySem.W.Frag) (H : Hp) (v : V) (d : PyData) : Prop := (Dp K H v d ∧ d.canLay0 = true) ∨ (d = .dict [] ∧ ∃ a : Addr, v = .ref a ∧ H a = some (.dK []))
section
variable {prog : Program} {w : World} {h₀ : Heap} {a : Addr} {A : Around} {E : Value → Shared → Prop} {s : Shared} {Q : Value → Shared → Prop}
theorem repr_list {o : Obj} {vs : Array Value} {n : Nat} {xs : List PyData} {bs₀ : List Addr} (h1 : h₀.get? a = some o) (h2 : o.cls = .type "list") (h3 : o.data = .seq vs n) (h4 : ReadsAll h₀ vs.toList xs bs₀) (hs : PyData.showableAll xs = true) (hsm : PyData.hasDictAll xs = true → sysModules ∉ bs₀)
    (hg : A.guards = some []) (hu : A.units + 100 < cLine) (hdep : (PyData.list xs).depth ≤ 64) (hk0 : ∀ b o, h₀.get? b = some o → s.heap.get? b = some o)
    (hQ : ∀ h' u tk, (∀ b o, s.heap.get? b = some o → h'.get? b = some o) → Q (.str (PyData.list xs).shown u) { s with heap := h', toks := tk })
    (hsz : (PyData.list xs).shown.length ≤ sizeLine) : wpAny (model prog w) A (call (.builtin "repr") [.ref a]) Q E s := by
  have hz' : (listText (PyData.shownAll xs)).length ≤ sizeLine := by simpa only [PyData.shown] using hsz
  obtain ⟨bs, hb, hk⟩ := ReprAllK.of_readsAll (prog := prog) (w := w) h4 hs hsm (fun t ht => Nat.le_trans (listText_mem_le ht) hz')
  have hna : a ∉ bs := not_mem_of_deeper (.list h1 h2 h3 h4) (by simp only [PyData.depth]; omega) hb
  simp only [PyData.depth] at hdep
  simp only [PyData.shown] at hQ
  have hA : A.in1.units = A.units + 1 := rfl
  refine call_repr_slot (by omega) ⟨o, hk0 _ _ h1, h2⟩ F.slot_list_repr.toG ?_
  obtain ⟨l⟩ := vs
  cases l with
  | nil =>
    have h4' : ReadsAll h₀ [] xs _ := h4
    cases h4'
    simp only [PyData.shownAll, listText_nil] at hQ
    exact call_list_repr_empty ⟨o, hk0 _ _ h1, h2⟩ (hk0 _ _ h1) h3 ⟨_, _, rfl, hQ s.heap _ _ fun _ _ e => e⟩
  | cons x l =>
    exact call_list_reprK h1 h2 h3 hna (by simpa using hk.length_eq) (fun i y e => hk.item i y (by simpa using e)) hg (fun b _ => Clear.nil b) (by rw [hA]; omega) hk0 (fun h' u tk hk => ⟨_, _, rfl, hQ h' u tk hk⟩) hz'
end
theorem shownAll_rep (d : PyData) : ∀ n, PyData.shownAll (List.replicate n d) = List.replicate n d.shown
  | 0 => by simp only [List.replicate_zero, PyData.shownAll]
  | n + 1 => by simp only [List.replicate_succ, PyData.shownAll, shownAll_rep d n]
theorem showableAll_rep {d : PyData} (h : d.showable = true) : ∀ n, PyData.showableAll (List.replicate n d) = true
  | 0 => by simp only [List.replicate_zero, PyData.showableAll]
  | n + 1 => by simp only [List.replicate_succ, PyData.showableAll, h, showableAll_rep h n, Bool.and_self]
theorem depthAll_rep (d : PyData) : ∀ n, PyData.depthAll (List.replicate n d) ≤ d.depth
  | 0 => by simp only [List.replicate_zero, PyData.depthAll]; exact Nat.zero_le _
  | n + 1 => by simp only [List.replicate_succ, PyData.depthAll]; exact Nat.max_le.mpr ⟨Nat.le_refl _, depthAll_rep d n⟩
theorem hasDictAll_rep {d : PyData} : ∀ n, PyData.hasDictAll (List.replicate n d) = true → d.hasDict = true
  | 0, h => by simp [PyData.hasDictAll] at h
  | n + 1, h => by
    simp only [List.replicate_succ, PyData.hasDictAll, Bool.or_eq_true] at h
    exact h.elim id (hasDictAll_rep n)
theorem textFrom_le (m : Nat) : ∀ (ts : List Str) (k : Nat) (acc : Str), (∀ t ∈ ts, t.length ≤ m) → (textFrom k acc ts).length ≤ acc.length + ts.length * (m + 2)
  | [], _, acc, _ => Nat.le_add_right _ _
  | t :: r, k, acc, h => by
    have ih := textFrom_le m r (k + 1) (acc ++ (if k > 0 then ", " else "" : String) ++ t) fun u hu => h u (List.mem_cons_of_mem _ hu)
    have e : (acc ++ (if k > 0 then ", " else "" : String) ++ t).length = acc.length + (if k > 0 then 2 else 0) + t.length := by
      rw [strLen_append, strLen_append]
      split <;> rfl
    rw [e] at ih
    have ht := h t List.mem_cons_self
    have d1 : (if k > 0 then 2 else 0 : Nat) ≤ 2 := by split <;> omega
    show (textFrom (k + 1) _ r).length ≤ _
    rw [List.length_cons, Nat.add_mul]
    omega
/-- what shows well -/
abbrev Good (d : PyData) : Prop := d.showable = true ∧ d.depth ≤ 60 ∧ d.shown.length ≤ 100
theorem Good.rep {d : PyData} (h : Good d) {n : Nat} (hn : n ≤ 31) : (PyData.list (List.replicate n d)).shown.length ≤ sizeLine := by
  show (PyData.shown (.list _)).length ≤ _
  simp only [PyData.shown, shownAll_rep]
  unfold listText
  rw [strLen_append]
  have e := textFrom_le 100 (List.replicate n d.shown) 0 "[" fun t ht => by rw [List.eq_of_mem_replicate ht]; exact h.2.2
  rw [List.length_replicate] at e
  have e1 : ("[" : Str).length = 1 := by decide
  have e2 : Str.length (("]" : String) : Str) = 1 := by decide
  rw [e1] at e
  rw [e2, sizeLine_eq]
  omega
theorem reads_rep {h : Heap} {v : V} {d : PyData} (k : ∀ u, RelV v u → ∃ as, Reads h u d as ∧ (d.hasDict = true → sysModules ∉ as)) : ∀ (n : Nat) (its : List Value), Vals (List.replicate n v) its → ∃ bs, ReadsAll h its (List.replicate n d) bs ∧ (d.hasDict = true → sysModules ∉ bs)
  | 0, its, r => by
    cases r
    exact ⟨_, .nil, fun _ hm => nomatch hm⟩
  | n + 1, its, r => by
    rw [List.replicate_succ] at r ⊢
    cases r with
    | cons r1 r2 =>
      obtain ⟨as, h1, h2⟩ := k _ r1
      obtain ⟨bs, h3, h4⟩ := reads_rep k n _ r2
      exact ⟨_, .cons h1 h3, fun z hm => (List.mem_append.mp hm).elim (h2 z) (h4 z)⟩
/-- repr of one thing many times, in a list -/
def rReprN (K : PySem.W.Frag) : List V → Hp → VK → Prop := fun xs H Q => ∃ p v n d, xs = [.ref p] ∧ H p = some (.lst (List.replicate n v)) ∧ n ≤ 31 ∧ Hel K H v d ∧ Good d ∧ Q (.str (PyData.list (List.replicate n d)).shown) H
theorem call_reprN {X : Cx} (hg0 : X.A.guards = some []) (hu : X.A.units + 100 < cLine) : CallR X (.builtin "repr") (rReprN X.K) := by
  intro pins s σ H xs us Q I r h
  obtain ⟨p, v, n, d, rfl, hp, hn, hv, hd, q⟩ := h
  rw [Vals.ref1 r]
  obtain ⟨_, its, m, rv, hget⟩ := (show ObjOk X.prog X.w H s.heap p (.lst _) from I.hok p _ hp)
  have key : ∀ u, RelV v u → ∃ as, Reads s.heap u d as ∧ (d.hasDict = true → sysModules ∉ as) := fun u ru => by
    rcases hv with ⟨h, c⟩ | ⟨rfl, a, rfl, ha⟩
    · obtain ⟨as, rd⟩ := Dp.reads I d v u h ru
      exact ⟨as, rd, PyData.noDict_hsm (PyData.hasDict_of_canLay d c)⟩
    · obtain rfl : u = Value.ref a := ru
      obtain ⟨_, ya, va, ra, o, es, ep, h1, ⟨hc, _⟩, hd, _, hz, _⟩ := (show ObjOk X.prog X.w H s.heap a (.dK []) from I.hok a _ ha)
      cases ra
      have e : es.toList = [] := by
        cases q : es.toList with
        | nil => rfl
        | cons b r => rw [q] at hz; cases hz
      refine ⟨_, Reads.dict h1 hc hd (by rw [e]; exact ReadsAll.nil) (by rw [e]; exact ReadsAll.nil), fun _ hm => ?_⟩
      have : sysModules = a := by simpa using hm
      rw [this] at ya
      simp at ya
  obtain ⟨bs, h4, hs⟩ := reads_rep key n its rv
  exact repr_list hget rfl rfl (by simpa using h4) (showableAll_rep hd.1 n) (fun z => hs (hasDictAll_rep n z)) hg0 hu (by simp only [PyData.depth]; have := depthAll_rep d n; have := hd.2.1; omega) (fun _ _ e => e) (fun h' u' tk k => ⟨.str _, H, I.kept k, ⟨_, rfl⟩, q⟩) (hd.rep hn)
theorem x_reprN {K : PySem.W.Frag} {H : Hp} {Q : VK} {p : Addr} {v : V} {n : Nat} {d : PyData} (hp : H p = some (.lst (List.replicate n v))) (hn : n ≤ 31) (hv : Hel K H v d) (hd : Good d) (q : Q (.str (PyData.list (List.replicate n d)).shown) H) : rReprN K [.ref p] H Q := ⟨p, v, n, d, rfl, hp, hn, hv, hd, q⟩
end K36

end

section
set_option maxHeartbeats 4000000
local macro_rules | `(tactic| walk_at "ne") => `(tactic| first | assumption | (apply Ne.symm; assumption) | exact L2.ne_of_none (by assumption) (by assumption) | exact (L2.ne_of_none (by assumption) (by assumption)).symm)
local macro_rules | `(tactic| walk_at "hp") => `(tactic| first | assumption | exact L2.upd_same | (rw [L2.upd_ne (by walk_at "ne")]; walk_at "hp"))
local macro_rules | `(tactic| walk_at "sq") => `(tactic| first | assumption | exact L2.SqL.of (by walk_at "hp") | exact My.sq_new (by walk_at "sq") (by assumption))
local macro_rules | `(tactic| walk_at "sd") => `(tactic| first | decide | omega | (unfold L2.CDivN; omega) | (unfold L2.CMul; omega) | (unfold L2.CPow; omega))
local macro_rules | `(tactic| walk_at "sx1") => `(tactic| first | with_reducible refine My.x_seq ?_ | with_reducible refine My.x_asg ?_ | with_reducible refine My.x_ret ?_ | with_reducible refine My.x_next ?_ | with_reducible refine My.x_op ?_ | with_reducible refine My.x_c ?_ | with_reducible refine My.x_ifs ?_ | with_reducible refine My.x_test ?_ | with_reducible refine My.x_exbl ?_ | with_reducible refine My.x_cons ?_ | with_reducible refine My.x_nil ?_ | with_reducible refine My.x_cb ?_ | with_reducible refine My.x_drop ?_ | with_reducible refine My.x_par ?_ | with_reducible refine My.x_exp2 ?_ | with_reducible refine My.x_aug ?_ | with_reducible refine My.x_if ?_ | with_reducible refine My.x_tB ?_ | with_reducible refine My.x_and ?_ | with_reducible refine My.x_or ?_ | with_reducible refine My.x_not ?_ | with_reducible refine My.x_retn ?_ | with_reducible refine My.x_cont ?_ | with_reducible refine My.x_brk ?_ | with_reducible refine My.x_un ?_ | with_reducible refine My.x_tfor ?_ | with_reducible refine My.x_ilist ?_ | with_reducible refine My.x_rng1 ?_ | with_reducible refine My.x_rng2 ?_ | with_reducible refine My.x_r1 ?_ | with_reducible refine My.x_call ?_ | with_reducible refine My.x_sl ?_ | with_reducible refine My.x_part ?_ | with_reducible refine My.x_nopart ?_ | with_reducible refine My.x_ii0 ?_ | with_reducible refine My.x_yes ?_ | with_reducible refine My.x_andv ?_ | with_reducible refine My.x_orv ?_ | with_reducible refine My.x_notv ?_ | with_reducible refine My.x_iT ?_ | with_reducible refine My.x_iF ?_ | with_reducible refine My.x_chain ?_ | with_reducible refine My.x_exI ?_ | with_reducible refine My.x_wipe ?_ | with_reducible refine My.x_bm ?_ | with_reducible refine My.x_bm0 ?_ | with_reducible refine My.x_gsub ?_ | with_reducible refine My.x_int1 ?_ | with_reducible refine My.x_two ?_ | with_reducible refine My.x_lst ?_ | with_reducible refine My.x_tup ?_ | with_reducible refine My.x_revL ?_ | with_reducible refine My.x_dput ?_ | with_reducible refine My.x_dget ?_ | with_reducible refine My.x_dnew ?_ | with_reducible refine My.x_dc ?_ | with_reducible refine My.x_lc ?_ | with_reducible refine My.x_ienum ?_ | with_reducible refine My.x_gcons ?_ | with_reducible refine My.x_gnil ?_ | with_reducible refine My.x_v0 ?_ | with_reducible refine My.x_v1 ?_ | with_reducible refine My.x_v2 ?_ | with_reducible refine My.x_v3 ?_ | with_reducible refine My.x_v4 ?_ | with_reducible refine My.x_v5 ?_ | with_reducible refine My.x_v6 ?_ | with_reducible refine My.x_v7 ?_ | with_reducible refine My.x_v8 ?_ | with_reducible refine My.x_v9 ?_ | with_reducible refine My.x_v10 ?_ | with_reducible refine My.x_v11 ?_ | with_reducible refine My.x_v12 ?_ | with_reducible refine My.x_v13 ?_ | with_reducible refine My.x_v14 ?_ | with_reducible refine My.x_v15 ?_ | with_reducible refine My.x_v16 ?_ | with_reducible refine My.x_v17 ?_ | with_reducible refine My.x_v18 ?_ | with_reducible refine My.x_v19 ?_ | with_reducible refine My.x_v20 ?_ | with_reducible refine My.x_v21 ?_ | with_reducible refine My.x_v22 ?_ | with_reducible refine My.x_v23 ?_ | with_reducible refine My.x_v24 ?_ | with_reducible refine My.x_v25 ?_ | with_reducible refine My.x_g0 ?_ | with_reducible refine My.x_g1 ?_ | with_reducible refine My.x_g2 ?_ | with_reducible refine My.x_g3 ?_ | with_reducible refine My.x_g4 ?_ | with_reducible refine My.x_g5 ?_ | with_reducible refine My.x_g6 ?_ | with_reducible refine My.x_g7 ?_ | with_reducible refine My.x_g8 ?_ | with_reducible refine My.x_g9 ?_ | with_reducible refine My.x_g10 ?_ | with_reducible refine My.x_g11 ?_ | with_reducible refine My.x_g12 ?_ | with_reducible refine My.x_g13 ?_ | with_reducible refine My.x_g14 ?_ | with_reducible refine My.x_g15 ?_ | with_reducible refine My.x_g16 ?_ | with_reducible refine My.x_g17 ?_ | with_reducible refine My.x_g18 ?_ | with_reducible refine My.x_g19 ?_ | with_reducible refine My.x_g20 ?_ | with_reducible refine My.x_g21 ?_ | with_reducible refine My.x_g22 ?_ | with_reducible refine My.x_g23 ?_ | with_reducible refine My.x_g24 ?_ | with_reducible refine My.x_g25 ?_)
local macro_rules | `(tactic| walk_at "sx") => `(tactic| repeat (walk_at "sx1"))
local macro_rules | `(tactic| walk_at "ln") => `(tactic| first | assumption | exact Nat.le_of_ble_eq_true rfl | (simp only [List.length_append, List.length_map, List.length_cons, List.length_nil]; simp only [PySem.sizeLine]; omega))
local macro_rules | `(tactic| walk_at "st") => `(tactic| first | assumption | exact L2.SqT.of (by walk_at "hp"))
local macro_rules | `(tactic| walk_at "go1") => `(tactic| first | walk_at "sx1" | ((with_reducible refine' My.x_ixL ?x0 ?x1 ?x2); (case x0 => walk_at "sq"); (case x1 => exact rfl)) | ((with_reducible refine' My.x_ixT ?x0 ?x1 ?x2); (case x0 => walk_at "st"); (case x1 => exact rfl)) | ((with_reducible refine' My.x_i ?x0 ?x1); (case x0 => walk_at "sd")) | ((with_reducible refine' My.x_setL ?x0 ?x1 ?x2); (case x0 => walk_at "hp"); (case x1 => exact rfl)) | ((with_reducible refine' My.x_len ?x0 ?x1); (case x0 => walk_at "sq")) | ((with_reducible refine' My.x_lenT ?x0 ?x1); (case x0 => walk_at "st")) | ((with_reducible refine' My.x_lenD ?x0 ?x1); (case x0 => walk_at "hp")) | ((with_reducible refine' My.x_append ?x0 ?x1 ?x2); (case x0 => walk_at "hp"); (case x1 => walk_at "ln")) | ((with_reducible refine' My.x_tyL ?x0 ?x1); (case x0 => walk_at "hp")) | ((with_reducible refine' My.x_ilistE ?x0 ?x1); (case x0 => walk_at "sq")) | ((with_reducible refine' My.x_ienumE ?x0 ?x1); (case x0 => walk_at "sq")) | ((with_reducible refine' My.x_sortI ?x0 ?x1); (case x0 => walk_at "sq")) | ((with_reducible refine' My.x_slL ?x0 ?x1); (case x0 => walk_at "sq")) | ((with_reducible refine' My.x_revL2 ?x0 ?x1); (case x0 => walk_at "sq")) | ((with_reducible refine' My.x_eq ?x0 ?x1); (case x0 => exact rfl)) | ((with_reducible refine' My.x_ne ?x0 ?x1); (case x0 => exact rfl)) | ((with_reducible refine' My.x_dputI ?x0 ?x1 ?x2); (case x0 => walk_at "hp"); (case x1 => walk_at "ln")) | ((with_reducible refine' My.x_dputS ?x0 ?x1 ?x2); (case x0 => walk_at "hp"); (case x1 => walk_at "ln")) | ((with_reducible refine' My.x_seqof ?x0 ?x1); (case x0 => walk_at "sq")) | ((with_reducible refine' My.x_gtup ?x0 ?x1 ?x2); (case x0 => walk_at "st"); (case x1 => exact rfl)) | ((with_reducible refine' My.x_mem1 ?x0 ?x1); (case x0 => walk_at "ln")))
local macro_rules | `(tactic| walk_at "go") => `(tactic| repeat (walk_at "go1"))
local macro_rules | `(tactic| walk_at "sx1") => `(tactic| first | with_reducible refine My.x_gx ?_ | with_reducible refine My.x_gxK ?_ | with_reducible refine My.x_gi ?_ | with_reducible refine My.x_gst ?_ | with_reducible refine My.x_xg ?_ | with_reducible refine My.x_nF ?_ | with_reducible refine My.x_nT ?_)
namespace K36
open PySem PySem.Spec PyProof.Rows L2
theorem hu100 {k : Nat} {A : Around} (hr : Room k A) : A.units + 100 < cLine := by have := hr.un; omega
theorem pe_cl0 {X : Cx} {k : Nat} {ps : List Str} {sp : Sp} {x : Str} {p pos : Pos} (C : My.Cl X.prog X.w X.K X.mg X.base x ps k sp) (hr : Room k X.A) (hg : Gl X x) (hdb : (x == ("__debug__" : Str)) = false := by decide) :
    PE X (.Call (.Name x p) [] [] pos) (tCall sp [] E0 tNil) := by
  obtain ⟨fd, F, b⟩ := C.ex
  exact pe_call0 F hr hg C.g C.kp b .nil pass0 hdb
theorem ix_listK {X : Cx} {K : PySem.W.Frag} (h : X.K = K) : IxR X (rIxL K) := h ▸ ix_list
def sp_law (K : PySem.W.Frag) : Sp := fun vs H Q _ => ∃ (a : Addr) (ns : List Int), vs = [.ref a] ∧ SqL K H a (ns.map V.int) ∧ ns.length ≤ 63 ∧ ∀ H', Q (.bl true) H'
theorem dp_bools {K : PySem.W.Frag} {H : Hp} : ∀ bs : List Bool, DpAll K H (bs.map V.bl) (bs.map PyData.bool)
  | [] => .nil
  | b :: r => .cons (.bl b) (dp_bools r)
theorem shaped_bools (bs : List Bool) : SeqAt.shaped (.list (bs.map PyData.bool)) = true := by
  unfold SeqAt.shaped
  have h1 : ∀ bs : List Bool, PyData.canLayAll0 (bs.map PyData.bool) = true := fun bs => by
    induction bs with
    | nil => simp [PyData.canLayAll0]
    | cons b r ih => simp [PyData.canLayAll0, PyData.canLay0, ih]
  have h2 : ∀ bs : List Bool, PyData.depthAll (bs.map PyData.bool) ≤ 1 := fun bs => by
    induction bs with
    | nil => simp [PyData.depthAll]
    | cons b r ih => simp only [List.map_cons, PyData.depthAll, PyData.depth]; omega
  have h3 := h2 bs
  refine Bool.and_eq_true_iff.mpr ⟨by simp only [PyData.canLay0]; exact h1 bs, decide_eq_true ?_⟩
  simp only [PyData.depth]
  omega
theorem eqv_bools : ∀ bs : List Bool, PyData.eqvAll (bs.map PyData.bool) (bs.map PyData.bool) = true
  | [] => by simp [PyData.eqvAll]
  | b :: r => by simp [PyData.eqvAll, PyData.eqv, eqv_bools r]
theorem x_neB {K : PySem.W.Frag} {H : Hp} {Q : VK} {a b : Addr} {n : Nat} {f : Nat → Bool} (s : SqL K H a ((List.range n).map fun j => V.bl (f j))) (t : SqL K H b ((List.range n).map fun j => V.bl (f j))) (h : Q (.bl false) H) : rNeD K (.ref a) (.ref b) H Q := by
  have e : ((List.range n).map fun j => V.bl (f j)) = ((List.range n).map f).map V.bl := by rw [List.map_map]; rfl
  rw [e] at s t
  exact ⟨_, _, .lst s (dp_bools _), .lst t (dp_bools _), shaped_bools _, shaped_bools _, by rw [PyData.eqv, eqv_bools]; exact h⟩
/-- a comprehension of truths so far -/
def Pl (H0 : Hp) (D : Addr) (n : Nat) (f : Nat → Bool) (H : Hp) : Prop := Same H0 H ∧ H D = some (.lst ((List.range n).map fun j => V.bl (f j))) ∧ H0 D = none
theorem Pl.zero {H0 : Hp} {D : Addr} {f : Nat → Bool} (h : H0 D = none) : Pl H0 D 0 f (upd H0 D (.lst [])) := ⟨My.Same.new (Same.refl H0) h, upd_same, h⟩
theorem Pl.next {H0 H : Hp} {D : Addr} {n : Nat} {f : Nat → Bool} {y : V} (z : Pl H0 D n f H) (e : y = .bl (f n)) (hn : n < 1000) : ∃ acc, H D = some (.lst acc) ∧ acc.length < sizeLine ∧ Pl H0 D (n + 1) f (upd H D (.lst (acc ++ [y]))) := by
  refine ⟨_, z.2.1, by rw [List.length_map, List.length_range, sizeLine_eq]; omega, My.Same.mut z.1 z.2.2, ?_, z.2.2⟩
  rw [upd_same, List.range_succ, List.map_append, e]
  rfl
theorem dec_nat {a b : Nat} : V.bl (decide (V.int (0 + (a : Int)) = V.int (0 + (b : Int)))) = V.bl (decide (a = b)) := by
  congr 1
  exact decide_eq_decide.mpr ⟨fun h => by injection h with h; omega, fun h => by rw [h]⟩
theorem dec_nat0 {a b : Nat} : V.bl (decide (V.int (a : Int) = V.int (b : Int))) = V.bl (decide (a = b)) := by
  congr 1
  exact decide_eq_decide.mpr ⟨fun h => by injection h with h; omega, fun h => by rw [h]⟩
theorem due_at {i : Nat} (h : i < 36) : atI (due.map fun (n : Nat) => V.int (n : Int)) (i : Int) = some (V.int ((due.getD i 9 : Nat) : Int)) := by
  refine atI_nat ?_
  have e : due.length = 36 := by decide
  rw [List.getElem?_map, List.getElem?_eq_getElem (by omega), List.getD_eq_getElem?_getD, List.getElem?_eq_getElem (by omega)]
  rfl
/-- the nine values -/
theorem held {K : PySem.W.Frag} {H : Hp} {t l d : Addr} {n : Int} {x : V} (ht : H t = some (.tup [V.int 0, V.int 1])) (hl : H l = some (.lst [V.int 3])) (hd : H d = some (.dK [])) (h0 : 0 ≤ n) (h1 : n < 10 ^ (30 : Int).toNat)
    (hx : x ∈ [V.non, V.int 0, V.int (-1), V.str ("x" : Str), V.ref t, V.ref l, V.ref d, V.bl true, V.int n]) : ∃ d, Good d ∧ ∀ H', Same H H' → Hel K H' x d := by
  simp only [List.mem_cons, List.not_mem_nil, or_false] at hx
  rcases hx with rfl | rfl | rfl | rfl | rfl | rfl | rfl | rfl | rfl
  · exact ⟨.none, by decide +kernel, fun _ _ => .inl ⟨.non, rfl⟩⟩
  · exact ⟨.int 0, by decide +kernel, fun _ _ => .inl ⟨.int _, rfl⟩⟩
  · exact ⟨.int (-1), by decide +kernel, fun _ _ => .inl ⟨.int _, rfl⟩⟩
  · exact ⟨.str ("x" : Str), by decide +kernel, fun _ _ => .inl ⟨.str _, by decide +kernel⟩⟩
  · exact ⟨.tuple [.int 0, .int 1], by decide +kernel, fun _ s => .inl ⟨.tup (SqT.of (s _ _ ht)) (.cons (.int _) (.cons (.int _) .nil)), rfl⟩⟩
  · exact ⟨.list [.int 3], by decide +kernel, fun _ s => .inl ⟨.lst (SqL.of (s _ _ hl)) (.cons (.int _) .nil), rfl⟩⟩
  · exact ⟨.dict [], by decide +kernel, fun _ s => .inr ⟨rfl, _, rfl, s _ _ hd⟩⟩
  · exact ⟨.bool true, by decide +kernel, fun _ _ => .inl ⟨.bl _, rfl⟩⟩
  · refine ⟨.int n, ⟨?_, Nat.zero_le _, ?_⟩, fun _ _ => .inl ⟨.int _, rfl⟩⟩
    · have hz : n.natAbs < 2 ^ 100 := by
        have : (10 : Int) ^ (30 : Int).toNat = 1000000000000000000000000000000 := by decide
        omega
      show decide (n.natAbs.log2 < 1920) = true
      refine decide_eq_true ?_
      by_cases hn : n.natAbs = 0
      · rw [hn]; decide
      · have := (Nat.log2_lt hn).mpr hz
        omega
    · have hz : n.natAbs < 10 ^ 30 := by
        have : (10 : Int) ^ (30 : Int).toNat = 1000000000000000000000000000000 := by decide
        omega
      have := int_text_length_le10 (a := n) (k := 30) (by decide) hz
      show (PyData.shown (.int n)).length ≤ 100
      simp only [PyData.shown]
      show (Str.ofString (toString n)).length ≤ 100
      rw [PySem.ofString_length]
      omega
section
variable {P : Program} {w : World} {K : PySem.W.Frag} {mg : Str → Option Value} {base : Heap}
theorem ok_law (T : Tx K mg) {fd : FuncData} (F : Fd K d_law fd) (C_law_pool : My.Cl P w K mg base "_law_pool" ["_law_script", "_law_k"] 1 (My.sp_pool K))
    (C_law_draw : My.Cl P w K mg base "_law_draw" ["_law_pool_here", "_law_many"] 1 sp_drawW) (C_law_choose : My.Cl P w K mg base "_law_choose" ["_law_pool_here", "_law_items"] 2 sp_choose)
    (C_law_made : My.Cl P w K mg base "_law_made" ["_law_held"] 3 (sp_made K)) (C_law_named : My.Cl P w K mg base "_law_named" ["_law_held"] 3 (sp_made K))
    (C_law_kinds : My.Cl P w K mg base "_law_kinds" ["_law_e"] 1 (sp_kinds K)) (C_law_bases : My.Cl P w K mg base "_law_bases" ["_law_e"] 1 (sp_bases K))
    (C_law_fields : My.Cl P w K mg base "_law_fields" ["_law_made_here"] 1 (sp_fields K)) (C_law_parts_apart : My.Cl P w K mg base "_law_parts_apart" [] 3 sp_true) : My.FnG P w K mg base CX0 4 (He.ga K "law") fd ["_law_script"] (sp_law K) := by
  refine My.FunD.okG F sc_law (fun vs H Q E h => ?_) (fun cdv A outer s H vs Q E hg hr h => ?_)
  · obtain ⟨a, ns, rfl, _⟩ := h
    rfl
  · obtain ⟨a, ns, rfl, hs, hn, q⟩ := h
    refine ⟨_, PSs.nox ((pss_cons (ps_set (i := 1) sc_law.nd rfl (Or.inr rfl) (pe_lst (pa_cons pe_int (pa_cons pe_int (pa_cons pe_int (pa_cons pe_int (pa_cons pe_int (pa_cons pe_int (pa_cons pe_int (pa_cons pe_int (pa_cons pe_int (pa_cons pe_int (pa_cons pe_int (pa_cons pe_int (pa_cons pe_int (pa_cons pe_int (pa_cons pe_int (pa_cons pe_int (pa_cons pe_int (pa_cons pe_int pa_nil))))))))))))))))))))
  (pss_cons (ps_set (i := 1) sc_law.nd rfl (Or.inr rfl) (pe_op op_cat (pv 1) (pe_lst (pa_cons pe_int (pa_cons pe_int (pa_cons pe_int (pa_cons pe_int (pa_cons pe_int (pa_cons pe_int (pa_cons pe_int (pa_cons pe_int (pa_cons pe_int (pa_cons pe_int (pa_cons pe_int (pa_cons pe_int (pa_cons pe_int (pa_cons pe_int (pa_cons pe_int (pa_cons pe_int (pa_cons pe_int (pa_cons pe_int pa_nil)))))))))))))))))))))
  (pss_cons (ps_for PassesOwn.never rfl (pi_range1 rfl T.n_range (pa_cons (pe_callB (call_max2 rfl) (by rfl) T.n_max (by decide +kernel) (pa_cons pe_int (pa_cons (pe_callB (call_min2 rfl) (by rfl) T.n_min (by decide +kernel) (pa_cons (pe_callB call_len_seq (by rfl) T.n_len (by decide +kernel) (pa_cons (pv 0) pa_nil)) (pa_cons pe_int pa_nil))) pa_nil))) pa_nil)) (pg_name (i := 2) sc_law.nd rfl (Or.inl rfl))
  (pss_cons (ps_set (i := 3) sc_law.nd rfl (Or.inl rfl) (My.pe_cl C_law_pool (hr.mono (by decide)) rfl (pa_cons (pv 0) (pa_cons (pv 2) pa_nil))))
  (pss_cons (ps_set (i := 4) sc_law.nd rfl (Or.inl rfl) (My.pe_cl C_law_choose (hr.mono (by decide)) rfl (pa_cons (pv 3) (pa_cons (pe_lst (pa_cons pe_non (pa_cons pe_int (pa_cons (pe_un un_neg pe_int) (pa_cons pe_str (pa_cons (pe_tup (pa_cons pe_int (pa_cons pe_int pa_nil))) (pa_cons (pe_lst (pa_cons pe_int pa_nil)) (pa_cons pe_dnewK (pa_cons pe_bl (pa_cons (My.pe_cl C_law_draw (hr.mono (by decide)) rfl (pa_cons (pv 3) (pa_cons (pe_op op_pow pe_int pe_int) pa_nil))) pa_nil)))))))))) pa_nil))))
  (pss_one (ps_for PassesOwn.never rfl (pi_list (pe_lst (pa_cons (My.pe_cl C_law_made (hr.mono (by decide)) rfl (pa_cons (pv 4) pa_nil)) (pa_cons (My.pe_cl C_law_named (hr.mono (by decide)) rfl (pa_cons (pv 4) pa_nil)) pa_nil)))) (pg_name (i := 5) sc_law.nd rfl (Or.inl rfl))
  (pss_cons (ps_for PassesOwn.never rfl (pi_range1 rfl T.n_range (pa_cons pe_int pa_nil)) (pg_name (i := 6) sc_law.nd rfl (Or.inr rfl))
  (pss_cons (ps_if (pt_cmpR (op_neD hr.units) (My.pe_cl C_law_kinds (hr.mono (by decide)) rfl (pa_cons (pe_ix (ix_listK (K := K) (by rfl)) (pv 5) (pv 6) (fun _ _ => rfl)) pa_nil)) (pe_lc (own := [("_law_spot", 7)]) (g := gName 7) (tt := tYes) rfl sc_law.nd (pi_range1 rfl T.n_range (pa_cons pe_int pa_nil)) (blkOk_by (own := [("_law_spot", 7)]) (N := ["_law_script", "_law_due", "_law_k", "_law_pool_here", "_law_held", "_law_made_here", "_law_at", "_law_spot"]) (sc := defScope s_law) (by decide +kernel)) (fun _ _ _ _ _ => pg_name (i := 7) sc_law.nd rfl (Or.inl rfl)) (fun _ _ _ _ _ => pts_nil) (fun _ _ _ _ _ => (pe_cmpR op_eq (pv 7) (pv 6) (nomark _)))) (nomark _))
  (pss_one (ps_ret pe_bl))
  pss_nil)
  (pss_one (ps_if (pt_cmpR (op_neD hr.units) (My.pe_cl C_law_bases (hr.mono (by decide)) rfl (pa_cons (pe_ix (ix_listK (K := K) (by rfl)) (pv 5) (pv 6) (fun _ _ => rfl)) pa_nil)) (pe_lc (own := [("_law_spot", 7)]) (g := gName 7) (tt := tYes) rfl sc_law.nd (pi_range1 rfl T.n_range (pa_cons pe_int pa_nil)) (blkOk_by (own := [("_law_spot", 7)]) (N := ["_law_script", "_law_due", "_law_k", "_law_pool_here", "_law_held", "_law_made_here", "_law_at", "_law_spot"]) (sc := defScope s_law) (by decide +kernel)) (fun _ _ _ _ _ => pg_name (i := 7) sc_law.nd rfl (Or.inl rfl)) (fun _ _ _ _ _ => pts_nil) (fun _ _ _ _ _ => (pe_cmpR op_eq (pv 7) (pe_ix (ix_listK (K := K) (by rfl)) (pv 1) (pv 6) (fun _ _ => rfl)) (nomark _)))) (nomark _))
  (pss_one (ps_ret pe_bl))
  pss_nil))))
  (pss_one (ps_if (pt_cmpR op_ne (pe_callB (call_reprN (by exact hg) (by have hq := hu100 hr; exact hq)) (by rfl) T.n_repr (by decide +kernel) (pa_cons (My.pe_cl C_law_fields (hr.mono (by decide)) rfl (pa_cons (pv 5) pa_nil)) pa_nil)) (pe_callB (call_reprN (by exact hg) (by have hq := hu100 hr; exact hq)) (by rfl) T.n_repr (by decide +kernel) (pa_cons (pe_op op_rep (pe_lst (pa_cons (pv 4) pa_nil)) pe_int) pa_nil)) (nomark _))
  (pss_one (ps_ret pe_bl))
  pss_nil))))))))
  (pss_one (ps_ret (pe_cl0 C_law_parts_apart (hr.mono (by decide)) rfl))))))), ?_⟩
    refine My.x_start (σ := [some (V.ref a), none, none, none, none, none, none, none]) rfl ?_
    try dsimp only [cxOf, Cx.nox]
    walk_at "go"
    intro q1 hq1
    have k_ := My.Same.new (o := .lst [V.int 0, V.int 0, V.int 0, V.int 0, V.int 0, V.int 0, V.int 0, V.int 0, V.int 0, V.int 1, V.int 1, V.int 2, V.int 2, V.int 2, V.int 2, V.int 2, V.int 2, V.int 2]) (Same.refl H) hq1
    have gq1 : upd H q1 (.lst [V.int 0, V.int 0, V.int 0, V.int 0, V.int 0, V.int 0, V.int 0, V.int 0, V.int 0, V.int 1, V.int 1, V.int 2, V.int 2, V.int 2, V.int 2, V.int 2, V.int 2, V.int 2]) q1 = some (.lst [V.int 0, V.int 0, V.int 0, V.int 0, V.int 0, V.int 0, V.int 0, V.int 0, V.int 0, V.int 1, V.int 1, V.int 2, V.int 2, V.int 2, V.int 2, V.int 2, V.int 2, V.int 2]) := upd_same
    generalize upd H q1 (.lst [V.int 0, V.int 0, V.int 0, V.int 0, V.int 0, V.int 0, V.int 0, V.int 0, V.int 0, V.int 1, V.int 1, V.int 2, V.int 2, V.int 2, V.int 2, V.int 2, V.int 2, V.int 2]) = H1 at k_ gq1 ⊢
    replace hs := L2.Same.seq k_ hs
    clear k_
    clear hq1
    walk_at "go"
    intro q2 hq2
    have k_ := My.Same.new (o := .lst [V.int 2, V.int 2, V.int 3, V.int 3, V.int 3, V.int 0, V.int 1, V.int 2, V.int 2, V.int 2, V.int 2, V.int 0, V.int 0, V.int 0, V.int 0, V.int 2, V.int 2, V.int 2]) (Same.refl H1) hq2
    have gq2 : upd H1 q2 (.lst [V.int 2, V.int 2, V.int 3, V.int 3, V.int 3, V.int 0, V.int 1, V.int 2, V.int 2, V.int 2, V.int 2, V.int 0, V.int 0, V.int 0, V.int 0, V.int 2, V.int 2, V.int 2]) q2 = some (.lst [V.int 2, V.int 2, V.int 3, V.int 3, V.int 3, V.int 0, V.int 1, V.int 2, V.int 2, V.int 2, V.int 2, V.int 0, V.int 0, V.int 0, V.int 0, V.int 2, V.int 2, V.int 2]) := upd_same
    generalize upd H1 q2 (.lst [V.int 2, V.int 2, V.int 3, V.int 3, V.int 3, V.int 0, V.int 1, V.int 2, V.int 2, V.int 2, V.int 2, V.int 0, V.int 0, V.int 0, V.int 0, V.int 2, V.int 2, V.int 2]) = H2 at k_ gq2 ⊢
    replace hs := L2.Same.seq k_ hs
    replace gq1 := k_ _ _ gq1
    clear k_
    clear hq2
    walk_at "go"
    refine My.x_cat gq1 gq2 (Nat.le_of_ble_eq_true rfl) fun q3 hq3 => ?_
    have k_ := My.Same.new (o := .lst ([V.int 0, V.int 0, V.int 0, V.int 0, V.int 0, V.int 0, V.int 0, V.int 0, V.int 0, V.int 1, V.int 1, V.int 2, V.int 2, V.int 2, V.int 2, V.int 2, V.int 2, V.int 2] ++ [V.int 2, V.int 2, V.int 3, V.int 3, V.int 3, V.int 0, V.int 1, V.int 2, V.int 2, V.int 2, V.int 2, V.int 0, V.int 0, V.int 0, V.int 0, V.int 2, V.int 2, V.int 2])) (Same.refl H2) hq3
    have gq3 : upd H2 q3 (.lst ([V.int 0, V.int 0, V.int 0, V.int 0, V.int 0, V.int 0, V.int 0, V.int 0, V.int 0, V.int 1, V.int 1, V.int 2, V.int 2, V.int 2, V.int 2, V.int 2, V.int 2, V.int 2] ++ [V.int 2, V.int 2, V.int 3, V.int 3, V.int 3, V.int 0, V.int 1, V.int 2, V.int 2, V.int 2, V.int 2, V.int 0, V.int 0, V.int 0, V.int 0, V.int 2, V.int 2, V.int 2])) q3 = some (.lst ([V.int 0, V.int 0, V.int 0, V.int 0, V.int 0, V.int 0, V.int 0, V.int 0, V.int 0, V.int 1, V.int 1, V.int 2, V.int 2, V.int 2, V.int 2, V.int 2, V.int 2, V.int 2] ++ [V.int 2, V.int 2, V.int 3, V.int 3, V.int 3, V.int 0, V.int 1, V.int 2, V.int 2, V.int 2, V.int 2, V.int 0, V.int 0, V.int 0, V.int 0, V.int 2, V.int 2, V.int 2])) := upd_same
    generalize upd H2 q3 (.lst ([V.int 0, V.int 0, V.int 0, V.int 0, V.int 0, V.int 0, V.int 0, V.int 0, V.int 0, V.int 1, V.int 1, V.int 2, V.int 2, V.int 2, V.int 2, V.int 2, V.int 2, V.int 2] ++ [V.int 2, V.int 2, V.int 3, V.int 3, V.int 3, V.int 0, V.int 1, V.int 2, V.int 2, V.int 2, V.int 2, V.int 0, V.int 0, V.int 0, V.int 0, V.int 2, V.int 2, V.int 2])) = HB at k_ gq3 ⊢
    replace hs := L2.Same.seq k_ hs
    clear k_
    replace gq3 : HB q3 = some (.lst (due.map fun (n : Nat) => V.int (n : Int))) := gq3
    clear gq1 gq2 hq3
    walk_at "go"
    refine My.x_rng1E (by split <;> split <;> omega) (by rw [List.length_map]; split <;> split <;> omega) ?_
    have hj : (if (if (4 : Int) < ((ns.map V.int).length : Int) then 4 else ((ns.map V.int).length : Int)) > 1 then (if (4 : Int) < ((ns.map V.int).length : Int) then 4 else ((ns.map V.int).length : Int)) else 1).toNat ≤ 4 := by
      split <;> split <;> omega
    generalize (if (if (4 : Int) < ((ns.map V.int).length : Int) then 4 else ((ns.map V.int).length : Int)) > 1 then (if (4 : Int) < ((ns.map V.int).length : Int) then 4 else ((ns.map V.int).length : Int)) else 1).toNat = j at hj ⊢
    refine My.for_rng (fun i σ' H' => Same HB H' ∧ ∃ o2 o3 o4 o5 o6 o7, σ' = [some (V.ref a), some (V.ref q3), o2, o3, o4, o5, o6, o7]) ⟨Same.refl HB, _, _, _, _, _, _, rfl⟩ ?_ ?_
    · rintro i σ' H3 hi ⟨S, o2, o3, o4, o5, o6, o7, rfl⟩
      walk_at "go"
      refine My.x_pool (S.seq hs) (by omega) (by omega) fun p H4 hp P4 B4 => ?_
      have hpB : HB p = none := S.free hp
      replace S : Same HB H4 := B4.same S hpB
      clear hp B4
      walk_at "go"
      intro t1 ht1
      have n1 := P4.ne ht1
      have k_ := My.Same.new (o := .tup [V.int 0, V.int 1]) (Same.refl H4) ht1
      have gt1 : upd H4 t1 (.tup [V.int 0, V.int 1]) t1 = some (.tup [V.int 0, V.int 1]) := upd_same
      generalize upd H4 t1 (.tup [V.int 0, V.int 1]) = H5 at k_ gt1 ⊢
      replace S := S.trans k_
      replace P4 := P4.sees k_
      clear k_
      
      clear ht1
      walk_at "go"
      intro l3 hl3
      have n2 := P4.ne hl3
      have k_ := My.Same.new (o := .lst [V.int 3]) (Same.refl H5) hl3
      have gl3 : upd H5 l3 (.lst [V.int 3]) l3 = some (.lst [V.int 3]) := upd_same
      generalize upd H5 l3 (.lst [V.int 3]) = H6 at k_ gl3 ⊢
      replace S := S.trans k_
      replace P4 := P4.sees k_
      replace gt1 := k_ _ _ gt1
      clear k_
      
      clear hl3
      walk_at "go"
      intro d3 hd3
      have n3 := P4.ne hd3
      have k_ := My.Same.new (o := .dK []) (Same.refl H6) hd3
      have gd3 : upd H6 d3 (.dK []) d3 = some (.dK []) := upd_same
      generalize upd H6 d3 (.dK []) = H7 at k_ gd3 ⊢
      replace S := S.trans k_
      replace P4 := P4.sees k_
      replace gt1 := k_ _ _ gt1
      replace gl3 := k_ _ _ gl3
      clear k_
      
      clear hd3
      walk_at "go"
      refine x_drawW P4 (by decide +kernel) (by decide +kernel) fun dr H8 d0 d9 P8 B8 => ?_
      replace gt1 := B8.at gt1 n1.symm
      replace gl3 := B8.at gl3 n2.symm
      replace gd3 := B8.at gd3 n3.symm
      replace S : Same HB H8 := B8.same S hpB
      clear P4 B8
      walk_at "go"
      intro X1 hX1
      have n4 := P8.ne hX1
      have k_ := My.Same.new (o := .lst [V.non, V.int 0, V.int (-1), V.str ("x" : Str), V.ref t1, V.ref l3, V.ref d3, V.bl true, V.int dr]) (Same.refl H8) hX1
      have gX1 : upd H8 X1 (.lst [V.non, V.int 0, V.int (-1), V.str ("x" : Str), V.ref t1, V.ref l3, V.ref d3, V.bl true, V.int dr]) X1 = some (.lst [V.non, V.int 0, V.int (-1), V.str ("x" : Str), V.ref t1, V.ref l3, V.ref d3, V.bl true, V.int dr]) := upd_same
      generalize upd H8 X1 (.lst [V.non, V.int 0, V.int (-1), V.str ("x" : Str), V.ref t1, V.ref l3, V.ref d3, V.bl true, V.int dr]) = H9 at k_ gX1 ⊢
      replace S := S.trans k_
      replace P8 := P8.sees k_
      replace gt1 := k_ _ _ gt1
      replace gl3 := k_ _ _ gl3
      replace gd3 := k_ _ _ gd3
      clear k_
      
      clear hX1
      walk_at "go"
      refine ⟨p, X1, _, rfl, P8, gX1, n4.symm, by simp, by simp, fun x HC hx PC BC => ?_⟩
      replace gt1 := BC.at gt1 n1.symm
      replace gl3 := BC.at gl3 n2.symm
      replace gd3 := BC.at gd3 n3.symm
      replace S : Same HB HC := BC.same S hpB
      have hd : ∃ d, Good d ∧ ∀ H', Same HC H' → Hel K H' x d := held gt1 gl3 gd3 (by omega) d9 hx
      obtain ⟨d, gd, hel⟩ := hd
      clear hx PC BC P8 gX1 gt1 gl3 gd3 n1 n2 n3 n4 d0 d9
      walk_at "go"
      refine ⟨x, rfl, fun p1 L1 H10 k10 g1 x1 m1 => ?_⟩
      have M1 : Made K H10 p1 x := ⟨L1, g1, x1, m1⟩
      have SC : Same HC H10 := k10
      clear k10 g1 x1 m1
      walk_at "go"
      refine ⟨x, rfl, fun p2 L2 H11 k11 g2 x2 m2 => ?_⟩
      have M2 : Made K H11 p2 x := ⟨L2, g2, x2, m2⟩
      replace M1 := M1.same k11
      replace SC := SC.trans k11
      clear k11 g2 x2 m2
      walk_at "go"
      intro W hW
      have k_ := My.Same.new (o := .lst [V.ref p1, V.ref p2]) (Same.refl H11) hW
      have gW : upd H11 W (.lst [V.ref p1, V.ref p2]) W = some (.lst [V.ref p1, V.ref p2]) := upd_same
      generalize upd H11 W (.lst [V.ref p1, V.ref p2]) = HD at k_ gW ⊢
      replace SC := SC.trans k_
      replace M1 := M1.same k_
      replace M2 := M2.same k_
      clear k_
      
      clear hW
      walk_at "go"
      refine My.for_runs (My.runs_list (K := K) (a := W) id [V.ref p1, V.ref p2]) (fun pre σ' H' => Same HD H' ∧ ∃ o5 o6 o7, σ' = [some (V.ref a), some (V.ref q3), some (V.int (0 + i)), some (V.ref p), some x, o5, o6, o7]) ⟨Same.refl HD, _, _, _, rfl⟩ (fun pre post σ' H' _ z => SqL.of (z.1 _ _ gW)) ?_ ?_
      · rintro pre y post σ' H12 v H13 hpre ⟨s, o5, o6, o7, rfl⟩ ⟨rfl, rfl⟩
        have hM : ∃ pm, v = .ref pm ∧ Made K H13 pm x := by
          have hm : v ∈ [V.ref p1, V.ref p2] := by rw [hpre]; simp
          simp only [List.mem_cons, List.not_mem_nil, or_false] at hm
          rcases hm with rfl | rfl
          · exact ⟨_, rfl, M1.same s⟩
          · exact ⟨_, rfl, M2.same s⟩
        obtain ⟨pm, rfl, hM⟩ := hM
        have SE : Same HC H13 := SC.trans s
        have gq : H13 q3 = some (.lst (due.map fun (n : Nat) => V.int (n : Int))) := SE _ _ (S _ _ gq3)
        have Sb : Same HD H13 := s
        clear M1 M2 gW hpre SC
        walk_at "go"
        refine My.x_rng1E (by decide) (by decide) ?_
        refine My.for_rng (fun i2 σ' H' => Same H13 H' ∧ ∃ o6 o7, σ' = [some (V.ref a), some (V.ref q3), some (V.int (0 + i)), some (V.ref p), some x, some (V.ref pm), o6, o7]) ⟨Same.refl H13, _, _, rfl⟩ ?_ ?_
        · rintro i2 σ' H14 hi2 ⟨s2, o6, o7, rfl⟩
          have hi2 : i2 < 36 := hi2
          obtain ⟨xs, hxs, get⟩ := (hM.same s2).get
          obtain ⟨e, he, xe⟩ := get i2 hi2
          have gq14 := s2 _ _ gq
          walk_at "go"
          refine My.x_ixL (SqL.of hxs) (by rw [Int.zero_add]; exact he) ?_
          walk_at "go"
          refine ⟨e, i2, _, rfl, hi2, xe, fun p15 H15 k15 g15 => ?_⟩
          walk_at "go"
          refine My.x_rng1E (by decide) (by decide) ?_
          intro D hD
          refine lc_range (lo := 0) (n := 36) (fun n H' => Pl H15 D n (fun j => decide (j = i2)) H') (Pl.zero hD) ?_ ?_
          · rintro j H16 hj z
            walk_at "go"
            refine ⟨rfl, ?_⟩
            refine ⟨_, rfl, ?_⟩
            refine ⟨_, rfl, ?_⟩
            refine My.x_eq rfl ?_
            exact z.next (by rw [dec_nat]) (by omega)
          · rintro H16 ⟨k16, gD, _⟩
            refine x_neB (SqL.of (k16 _ _ g15)) (SqL.of gD) ?_
            walk_at "go"
            have S16 : Same H13 H16 := (s2.trans k15).trans k16
            have xe2 := xe.same (k15.trans k16)
            have hx2 := (k15.trans k16) _ _ hxs
            have gq16 := (k15.trans k16) _ _ gq14
            clear k15 g15 k16 gD hD
            refine My.x_ixL (SqL.of hx2) (by rw [Int.zero_add]; exact he) ?_
            walk_at "go"
            refine ⟨e, i2, _, rfl, hi2, xe2, fun p17 H17 k17 g17 => ?_⟩
            walk_at "go"
            refine My.x_rng1E (by decide) (by decide) ?_
            intro D hD
            refine lc_range (lo := 0) (n := 4) (fun n H' => Pl H17 D n (fun j => decide (j = due.getD i2 9)) H') (Pl.zero hD) ?_ ?_
            · rintro j H18 hj z
              walk_at "go"
              refine ⟨rfl, ?_⟩
              refine ⟨_, rfl, ?_⟩
              refine ⟨_, rfl, ?_⟩
              refine ⟨_, rfl, ?_⟩
              refine My.x_ixL (SqL.of (z.1 _ _ (k17 _ _ gq16))) (by rw [Int.zero_add]; exact due_at hi2) ?_
              refine My.x_eq rfl ?_
              exact z.next (by rw [Int.zero_add, dec_nat0]) (by omega)
            · rintro H18 ⟨k18, gD, _⟩
              refine x_neB (SqL.of (k18 _ _ g17)) (SqL.of gD) ?_
              walk_at "go"
              exact ⟨(S16.trans k17).trans k18, _, _, rfl⟩
        · rintro σ' H14 ⟨s2, o6, o7, rfl⟩
          have hM2 := hM.same s2
          walk_at "go"
          refine ⟨pm, x, rfl, hM2, fun r H15 k15 gr => ?_⟩
          have S15 : Same H13 H15 := s2.trans k15
          walk_at "go"
          refine x_reprN gr (by decide) (hel _ (SE.trans S15)) gd ?_
          walk_at "go"
          intro u hu
          have k_ := My.Same.new (o := .lst [x]) (Same.refl H15) hu
          have gu : upd H15 u (.lst [x]) u = some (.lst [x]) := upd_same
          generalize upd H15 u (.lst [x]) = H16 at k_ gu ⊢
          replace S15 := S15.trans k_
          clear k_
          
          walk_at "go"
          refine ⟨u, 31, _, rfl, rfl, gu, by decide, by decide, Nat.le_of_ble_eq_true rfl, fun u2 hu2 => ?_⟩
          have k_ := My.Same.new (o := .lst (List.replicate (31 : Int).toNat [x]).flatten) (Same.refl H16) hu2
          have gu2 : upd H16 u2 (.lst (List.replicate (31 : Int).toNat [x]).flatten) u2 = some (.lst (List.replicate (31 : Int).toNat [x]).flatten) := upd_same
          generalize upd H16 u2 (.lst (List.replicate (31 : Int).toNat [x]).flatten) = H17 at k_ gu2 ⊢
          replace S15 := S15.trans k_
          clear k_
          
          walk_at "go"
          refine x_reprN (n := 31) gu2 (by decide) (hel _ (SE.trans S15)) gd ?_
          refine My.x_ne rfl ?_
          simp only [decide_true, Bool.not_true]
          walk_at "go"
          exact ⟨Sb.trans S15, _, _, _, rfl⟩
      · rintro σ' H12 ⟨s, o5, o6, o7, rfl⟩
        exact ⟨(S.trans SC).trans s, _, _, _, _, _, _, rfl⟩
    · rintro σ' H3 ⟨S, o2, o3, o4, o5, o6, o7, rfl⟩
      walk_at "go"
      exact ⟨rfl, fun H' _ => q H'⟩
end
end K36

end

section
set_option maxHeartbeats 4000000
namespace K36
open PySem PySem.Spec PyProof.Rows L2
def fn : List He.DefD := [d_InvalidBlock_init, d_InvalidRecord_init, d_InvalidDisks_init, d_InvalidName_init, d_InvalidIndex_init, d_InvalidSize_init, d_InvalidData_init, d_InvalidCount_init, d_InvalidArea_init, d_UnknownName_init, d_NameTaken_init, d_NotVolume_init, d_NotSnapshot_init, d_NotAncestor_init, d_Branched_init, d_Busy_init, d_Closed_init, d_NoStore_init, d_Damaged_init, d_PowerLoss_init, d_NoSpace_init, d_TooMany_init, d_QuotaExceeded_init, d_InvalidPart_init, d_NoBase_init, d_WrongPart_init, d_BaseDiffers_init, d_Altered_init, d_Clashing_init, d_InvalidUser_init, d_InvalidOperation_init, d_ParseError_init, d_InvalidCommand_init, d_NothingToUndo_init, d_NothingToRedo_init, d_StillNeeded_init, d_law_pool, d_law_draw, d_law_choose, d_law_made, d_law_named, d_law_kinds, d_law_bases, d_law_fields, d_law_parts_apart, d_law]
def fa : List He.Fa := [.glo "_law_pool", .glo "_law_draw", .glo "_law_choose", .glo "_law_made", .glo "_law_named", .glo "_law_kinds", .glo "_law_bases", .glo "_law_fields", .glo "_law_parts_apart", .glo "law", .free "len", .free "int", .free "max", .free "min", .free "range", .free "isinstance", .free "repr", .free "ValueError", .free "LookupError", .free "RuntimeError", .free "OverflowError"]
def vIB (K : PySem.W.Frag) (t n : String) : Bool := match PySem.W.findCls K (.type t) (.type "type") "__init__" with
  | some (.val (.builtin m)) => m == n
  | _ => false
theorem vIB_ok {K : PySem.W.Frag} {t n : String} (h : vIB K t n = true) : PySem.W.findCls K (.type t) (.type "type") "__init__" = some (.val (.builtin n)) := by
  unfold vIB at h
  split at h
  · rename_i m e
    rw [e, beq_iff_eq.mp h]
  · cases h
/-- a number worked out first -/
def fN {α : Type} (n : Nat) (k : Nat → α) : α := match n with
  | 0 => k 0
  | m + 1 => k (m + 1)
theorem fN_eq {α : Type} (n : Nat) (k : Nat → α) : fN n k = k n := by
  cases n <;> rfl
def mroIs (K : PySem.W.Frag) (C : Addr) (bm : List Value) : Bool := match PySem.W.clsIn K C with
  | some cd => decide (cd.mro = .ref C :: bm)
  | none => false
/-- a class of exceptions, as written, at C -/
def tcC (K : PySem.W.Frag) (x : Str) (bn : String) (bm : List Value) (fs : List Str) (C : Nat) : Bool :=
  He.eqO (PySem.W.nsIn K mainGlobals x) (some (some (.ref C))) && (PySem.W.excInitIn K C bm bn && (PySem.W.excOver K C bm && (He.eqO (PySem.W.findIn K (.ref C) "__setattr__") (some (some (.builtin "object.__setattr__"))) &&
  (decide (PySem.W.typeIn K (.ref C) = some (.type "type")) && (PySem.W.keepIn K (.ref C) && (xfB K C && (He.eqO (PySem.W.findIn K (.ref C) "__class__") (some (some (.builtin "object.__class__"))) &&
  (mroIs K C bm && ((fs.all fun f => He.eqO (PySem.W.findIn K (.ref C) f) (some none)) && fN (He.ma K C "__init__") fun m => He.eqO (PySem.W.findIn K (.ref C) "__init__") (some (some (.ref m))) && decide (PySem.W.typeIn K (.ref m) = some (.type "function")))))))))))
def tcB (K : PySem.W.Frag) (x : Str) (bn : String) (bm : List Value) (fs : List Str) : Bool := fN (He.ga K x) fun C => tcC K x bn bm fs C
def ocB (K : PySem.W.Frag) : Bool := He.eqO (PySem.W.specialIn K (.builtin "object.__class__") "__get__") (some (some (.builtin "getset_descriptor.__get__"))) && decide (PySem.W.takesIn K (.builtin "object.__class__") = some true)
theorem mroIs_ok {K : PySem.W.Frag} {C : Addr} {bm : List Value} (h : mroIs K C bm = true) : ∃ cd, PySem.W.clsIn K C = some cd ∧ cd.mro = .ref C :: bm := by
  unfold mroIs at h
  split at h
  · rename_i cd e
    exact ⟨cd, e, of_decide_eq_true h⟩
  · cases h
theorem mro_in {K : PySem.W.Frag} {C : Addr} {bm : List Value} (h : mroIs K C bm = true) (b : Value) : PySem.W.mroIn K C b = some ((Value.ref C :: bm).contains b) := by
  obtain ⟨cd, e, m⟩ := mroIs_ok h
  unfold PySem.W.mroIn
  rw [e, Option.bind_some, m]
  rfl
structure TcA (K : PySem.W.Frag) (mg : Str → Option Value) (x : Str) (bn : String) (bm : List Value) (fs : List Str) : Prop where
  c : Tc K x bn bm
  g : mg x = some (.ref (He.ga K x))
  m : mroIs K (He.ga K x) bm = true
  no : ∀ f : Str, f ∈ fs → PySem.W.findIn K (.ref (He.ga K x)) f = some none
  ty : PySem.W.typeIn K (.ref (He.ga K x)) = some (.type "type")
theorem tcB_ok {K : PySem.W.Frag} {x : Str} {bn : String} {bm : List Value} {fs : List Str} {h : Heap} {mg : Str → Option Value} (X : K.In h) (G : h.Ns mainGlobals mg) (o : ocB K = true) (hb : (bm.contains (.type "object")) = true) (q : tcB K x bn bm fs = true) : TcA K mg x bn bm fs := by
  unfold tcB at q
  rw [fN_eq] at q
  obtain ⟨h1, q⟩ := My.ba q
  obtain ⟨h2, q⟩ := My.ba q
  obtain ⟨h3, q⟩ := My.ba q
  obtain ⟨h4, q⟩ := My.ba q
  obtain ⟨h5, q⟩ := My.ba q
  obtain ⟨h6, q⟩ := My.ba q
  obtain ⟨h7, q⟩ := My.ba q
  obtain ⟨h8, q⟩ := My.ba q
  obtain ⟨h9, q⟩ := My.ba q
  obtain ⟨hf, q⟩ := My.ba q
  rw [fN_eq] at q
  obtain ⟨h10, h11⟩ := My.ba q
  obtain ⟨o1, o2⟩ := My.ba o
  have xf := xfB_ok h7
  have mo : PySem.W.mroIn K (He.ga K x) (.type "object") = some true := by
    rw [mro_in h9, List.contains_cons, hb, Bool.or_true]
  exact ⟨⟨⟨h2, h3, xf.hdC, He.eqO_ok h4, xf.exC, of_decide_eq_true h5, h6⟩, xf, ⟨xf.ga, xf.gg, xf.exC, xf.hdC, He.eqO_ok h8, He.eqO_ok o1, of_decide_eq_true o2, mo⟩, He.eqO_ok h10, of_decide_eq_true h11⟩, PySem.W.mg_of X G (He.eqO_ok h1), h9, fun f hm => He.eqO_ok (List.all_eq_true.mp hf f hm), of_decide_eq_true h5⟩
def bnI : Nat → String
  | 0 => bnVE
  | 1 => bnLE
  | 2 => bnRE
  | _ => bnOE
def bmI : Nat → List Value
  | 0 => bmVE
  | 1 => bmLE
  | 2 => bmRE
  | _ => bmOE
def clsB (K : PySem.W.Frag) : Bool := (List.range 36).all fun i => tcB K (nm.getD i "") (bnI (due.getD i 9)) (bmI (due.getD i 9)) (((fsL .non).getD i []).map (·.1))
/-- the classes lie apart -/
def apart (K : PySem.W.Frag) : List Nat → List Nat → Bool
  | [], _ => true
  | i :: r, cs => fN (Cn K i) fun c => cs.all (fun d => !(d == c)) && apart K r (c :: cs)
theorem all36 {p : Nat → Bool} (h : (List.range 36).all p = true) : ∀ i, i < 36 → p i = true := fun i hi => List.all_eq_true.mp h i (List.mem_range.mpr hi)
theorem apart_ok {K : PySem.W.Frag} : ∀ {l cs : List Nat}, apart K l cs = true → (∀ i ∈ l, ∀ c ∈ cs, Cn K i ≠ c) ∧ l.Pairwise (fun i j => Cn K i ≠ Cn K j)
  | [], _, _ => ⟨fun _ h => (nomatch h), .nil⟩
  | i :: r, cs, h => by
    unfold apart at h
    rw [fN_eq] at h
    obtain ⟨h1, h2⟩ := My.ba h
    obtain ⟨h3, h4⟩ := apart_ok h2
    refine ⟨fun k hk c hc => ?_, List.pairwise_cons.mpr ⟨fun j hj e => h3 j hj _ List.mem_cons_self e.symm, h4⟩⟩
    rcases List.mem_cons.mp hk with rfl | hk
    · intro e
      have := List.all_eq_true.mp h1 c hc
      rw [← e] at this
      simp at this
    · exact h3 k hk c (List.mem_cons_of_mem _ hc)
theorem apart_ne {K : PySem.W.Frag} (h : apart K (List.range 36) [] = true) {i j : Nat} (hi : i < 36) (hj : j < 36) (n : j ≠ i) : Cn K i ≠ Cn K j := by
  have p := (apart_ok h).2
  rw [List.pairwise_iff_getElem] at p
  rcases Nat.lt_or_gt_of_ne n with z | z
  · have := p j i (by simp; omega) (by simp; omega) z
    simp only [List.getElem_range] at this
    exact this.symm
  · have := p i j (by simp; omega) (by simp; omega) z
    simp only [List.getElem_range] at this
    exact this
theorem kit_own {K : PySem.W.Frag} (h : apart K (List.range 36) [] = true) (m : ∀ i, i < 36 → mroIs K (Cn K i) (bmI (due.getD i 9)) = true) (t : ∀ i, i < 36 → PySem.W.typeIn K (.ref (Cn K i)) = some (.type "type")) (i : Nat) (hi : i < 36) (j : Nat) (hj : j < 36) :
    PySem.W.kitOne K (.ref (Cn K i)) (.ref (Cn K j)) = some (decide (j = i)) := by
  by_cases e : j = i
  · subst e
    unfold PySem.W.kitOne
    rw [if_pos (by simp), decide_eq_true rfl]
  · have ne := apart_ne h hi hj e
    obtain ⟨cd, hc, _⟩ := mroIs_ok (m j hj)
    unfold PySem.W.kitOne PySem.W.kitCls
    rw [if_neg (by simpa using ne)]
    show (if ((PySem.W.clsIn K (Cn K j)).isSome && PySem.W.typeIn K (.ref (Cn K j)) == some (.type "type")) = true then PySem.W.mroIn K (Cn K i) (.ref (Cn K j)) else none) = _
    rw [hc, t j hj]
    simp only [Option.isSome_some, Bool.true_and, beq_self_eq_true, if_true]
    rw [mro_in (m i hi), decide_eq_false e, List.contains_cons]
    have z : ∀ n : Nat, (bmI n).contains (Value.ref (Cn K j)) = false := fun n => by
      match n with
      | 0 => rfl
      | 1 => rfl
      | 2 => rfl
      | n + 3 => rfl
    rw [z, Bool.or_false]
    have : ((Value.ref (Cn K j)) == Value.ref (Cn K i)) = false := by simpa using ne.symm
    rw [this]
theorem kit_base {K : PySem.W.Frag} (m : ∀ i, i < 36 → mroIs K (Cn K i) (bmI (due.getD i 9)) = true) {T : String} {n : Nat} (hk : PySem.W.kitMeta T = true) (hb : ∀ i, i < 36 → (bmI (due.getD i 9)).contains (.type T) = decide (n = due.getD i 9)) (i : Nat) (hi : i < 36) :
    PySem.W.kitOne K (.ref (Cn K i)) (.type T) = some (decide (n = due.getD i 9)) := by
  unfold PySem.W.kitOne PySem.W.kitCls
  rw [if_neg (by simp)]
  show (if PySem.W.kitMeta T = true then PySem.W.mroIn K (Cn K i) (.type T) else none) = _
  rw [if_pos hk, mro_in (m i hi), List.contains_cons, hb i hi]
  have : ((Value.type T) == Value.ref (Cn K i)) = false := by simp
  rw [this, Bool.false_or]
def ex (K : PySem.W.Frag) : Bool := vIB K "ValueError" "ValueError.__init__" && (vIB K "LookupError" "LookupError.__init__" && (vIB K "RuntimeError" "RuntimeError.__init__" && (vIB K "OverflowError" "OverflowError.__init__" && (ocB K && (clsB K && apart K (List.range 36) [])))))
abbrev R : PySem.W.OpenRow := PySem.W.OpenLaw.row PySem.Challenge.rw_livevolumes_k36_error_classes
abbrev hk : PySem.W.Hook := My.hookM 4 fa fn ex
def ob (s : PySem.W.SharedT) : He.AlD × Bool := My.obM 4 fa fn ex s
theorem ob_eq (s : PySem.W.SharedT) : ob s = hk.obs s.abs := My.obM_eq 4 fa fn ex s
def loose : List PySem.Str := [("InvalidBlock" : PySem.Str), ("InvalidRecord" : PySem.Str), ("InvalidDisks" : PySem.Str), ("InvalidName" : PySem.Str), ("InvalidIndex" : PySem.Str), ("InvalidSize" : PySem.Str), ("InvalidData" : PySem.Str), ("InvalidCount" : PySem.Str), ("InvalidArea" : PySem.Str), ("UnknownName" : PySem.Str), ("NameTaken" : PySem.Str), ("NotVolume" : PySem.Str), ("NotSnapshot" : PySem.Str), ("NotAncestor" : PySem.Str), ("Branched" : PySem.Str), ("Busy" : PySem.Str), ("Closed" : PySem.Str), ("NoStore" : PySem.Str), ("Damaged" : PySem.Str), ("PowerLoss" : PySem.Str), ("NoSpace" : PySem.Str), ("TooMany" : PySem.Str), ("QuotaExceeded" : PySem.Str), ("InvalidPart" : PySem.Str), ("NoBase" : PySem.Str), ("WrongPart" : PySem.Str), ("BaseDiffers" : PySem.Str), ("Altered" : PySem.Str), ("Clashing" : PySem.Str), ("InvalidUser" : PySem.Str), ("InvalidOperation" : PySem.Str), ("ParseError" : PySem.Str), ("InvalidCommand" : PySem.Str), ("NothingToUndo" : PySem.Str), ("NothingToRedo" : PySem.Str), ("StillNeeded" : PySem.Str), ("_law_pool" : PySem.Str), ("_law_draw" : PySem.Str), ("_law_choose" : PySem.Str), ("_law_made" : PySem.Str), ("_law_named" : PySem.Str), ("_law_kinds" : PySem.Str), ("_law_bases" : PySem.Str), ("_law_fields" : PySem.Str), ("_law_parts_apart" : PySem.Str)]
theorem triple {α β γ δ : Type} {x : Option α} {f : α → β} {g : α → γ} {h : α → δ} {a : β} {b : γ} {c : δ} (h1 : x.map f = some a) (h2 : x.map g = some b) (h3 : x.map h = some c) : x.map (fun s => (f s, g s, h s)) = some (a, b, c) := by
  cases x with
  | none => cases h1
  | some y =>
    obtain rfl := Option.some.inj h1
    obtain rfl := Option.some.inj h2
    obtain rfl := Option.some.inj h3
    rfl
open PySem.W PySem.Calls HandSHeadRun in
theorem run1 (w : World) (os : OsState) : (endF (stepQ (denQ tabQ) R.prog w) 30000 R.prog w os).map (fun s => looksF R.prog (boot_heap w.params) s.abs) = some true := by kernel_rfl
open PySem.W PySem.Calls HandSHeadRun in
theorem run2 (w : World) (os : OsState) : (endF (stepQ (denQ tabQ) R.prog w) 30000 R.prog w os).map (fun s => seenQ (view R.prog [47]) loose (importedModules R.prog.main.body) (fun s => xlAt (view R.prog [47]) [] s && recOk R.toRowW.records s) s.abs) = some (openGood (view R.prog [47]) loose) := by kernel_rfl
open PySem.W PySem.Calls HandSHeadRun in
theorem run3 (w : World) (os : OsState) : (endF (stepQ (denQ tabQ) R.prog w) 30000 R.prog w os).map (fun s => ob s) = some (hk.val w) := by kernel_rfl
theorem run (w : World) : HandSHeadRun.RunEq R (PySem.W.view R.prog [47]) hk ob 30000 loose w := fun os => triple (run1 w os) (run2 w os) (run3 w os)
end K36

end

section
set_option maxHeartbeats 4000000
namespace K36
open PySem PySem.Spec PyProof.Rows L2
theorem kbAll {K : PySem.W.Frag} {x qual : Str} {params : Arguments} {body : List Stmt} {scope : Scope} {kws : List (Str × V)} {f : Addr} {fd : FuncData} {ps ks : List Str} {g : List Value → List Value} (F : FunD K x qual params body scope [] kws f fd)
    (h : ∀ (kV doc pm : Value) (an : Option Addr) (cdv ct u : Value) (ws : List Value), ws.length = ks.length → bindArgs (PySem.W.fnOf x qual params body scope .none kV doc pm an cdv ct) ⟨[u], ks.zip ws⟩ = pure (ps.zip (u :: g ws))) (s : Shared) (a : Addr) (ws : List Value) (hl : ws.length = ks.length) : BindsTo s fd ⟨[.ref a], ks.zip ws⟩ (ps.zip (.ref a :: g ws)) := by
  obtain ⟨oc, od, dV, kV, doc, pm, an, cdv, ct, osl, rfl, lk, hcd, hD, hK⟩ := F.ex
  rcases hD with ⟨_, rfl⟩ | ⟨e, _⟩
  · exact .of_eq (h kV doc pm an cdv ct _ ws hl)
  · exact absurd rfl e
theorem facts {P : Program} {w : World} {K : PySem.W.Frag} {h : Heap} {mg : Str → Option Value} {f : Addr} (X : K.In h) (G : h.Ns mainGlobals mg) (hfa : mg ("law" : Str) = some (.ref f)) (c : He.SaysD fa fn K) (e : ex K = true) :
    ∃ fd : FuncData, (∀ (s : Shared) (v : Value), BindsTo s fd ⟨[v], []⟩ [("_law_script", v)]) ∧ ∀ base : Heap, K.In base → base.Ns mainGlobals mg → My.FnG P w K mg base CX0 4 f fd ["_law_script"] (sp_law K) := by
  obtain ⟨fd0, F0⟩ := c.def_ 0 (d := d_InvalidBlock_init) rfl
  obtain ⟨fd1, F1⟩ := c.def_ 1 (d := d_InvalidRecord_init) rfl
  obtain ⟨fd2, F2⟩ := c.def_ 2 (d := d_InvalidDisks_init) rfl
  obtain ⟨fd3, F3⟩ := c.def_ 3 (d := d_InvalidName_init) rfl
  obtain ⟨fd4, F4⟩ := c.def_ 4 (d := d_InvalidIndex_init) rfl
  obtain ⟨fd5, F5⟩ := c.def_ 5 (d := d_InvalidSize_init) rfl
  obtain ⟨fd6, F6⟩ := c.def_ 6 (d := d_InvalidData_init) rfl
  obtain ⟨fd7, F7⟩ := c.def_ 7 (d := d_InvalidCount_init) rfl
  obtain ⟨fd8, F8⟩ := c.def_ 8 (d := d_InvalidArea_init) rfl
  obtain ⟨fd9, F9⟩ := c.def_ 9 (d := d_UnknownName_init) rfl
  obtain ⟨fd10, F10⟩ := c.def_ 10 (d := d_NameTaken_init) rfl
  obtain ⟨fd11, F11⟩ := c.def_ 11 (d := d_NotVolume_init) rfl
  obtain ⟨fd12, F12⟩ := c.def_ 12 (d := d_NotSnapshot_init) rfl
  obtain ⟨fd13, F13⟩ := c.def_ 13 (d := d_NotAncestor_init) rfl
  obtain ⟨fd14, F14⟩ := c.def_ 14 (d := d_Branched_init) rfl
  obtain ⟨fd15, F15⟩ := c.def_ 15 (d := d_Busy_init) rfl
  obtain ⟨fd16, F16⟩ := c.def_ 16 (d := d_Closed_init) rfl
  obtain ⟨fd17, F17⟩ := c.def_ 17 (d := d_NoStore_init) rfl
  obtain ⟨fd18, F18⟩ := c.def_ 18 (d := d_Damaged_init) rfl
  obtain ⟨fd19, F19⟩ := c.def_ 19 (d := d_PowerLoss_init) rfl
  obtain ⟨fd20, F20⟩ := c.def_ 20 (d := d_NoSpace_init) rfl
  obtain ⟨fd21, F21⟩ := c.def_ 21 (d := d_TooMany_init) rfl
  obtain ⟨fd22, F22⟩ := c.def_ 22 (d := d_QuotaExceeded_init) rfl
  obtain ⟨fd23, F23⟩ := c.def_ 23 (d := d_InvalidPart_init) rfl
  obtain ⟨fd24, F24⟩ := c.def_ 24 (d := d_NoBase_init) rfl
  obtain ⟨fd25, F25⟩ := c.def_ 25 (d := d_WrongPart_init) rfl
  obtain ⟨fd26, F26⟩ := c.def_ 26 (d := d_BaseDiffers_init) rfl
  obtain ⟨fd27, F27⟩ := c.def_ 27 (d := d_Altered_init) rfl
  obtain ⟨fd28, F28⟩ := c.def_ 28 (d := d_Clashing_init) rfl
  obtain ⟨fd29, F29⟩ := c.def_ 29 (d := d_InvalidUser_init) rfl
  obtain ⟨fd30, F30⟩ := c.def_ 30 (d := d_InvalidOperation_init) rfl
  obtain ⟨fd31, F31⟩ := c.def_ 31 (d := d_ParseError_init) rfl
  obtain ⟨fd32, F32⟩ := c.def_ 32 (d := d_InvalidCommand_init) rfl
  obtain ⟨fd33, F33⟩ := c.def_ 33 (d := d_NothingToUndo_init) rfl
  obtain ⟨fd34, F34⟩ := c.def_ 34 (d := d_NothingToRedo_init) rfl
  obtain ⟨fd35, F35⟩ := c.def_ 35 (d := d_StillNeeded_init) rfl
  obtain ⟨fd36, F36⟩ := c.def_ 36 (d := d_law_pool) rfl
  obtain ⟨fd37, F37⟩ := c.def_ 37 (d := d_law_draw) rfl
  obtain ⟨fd38, F38⟩ := c.def_ 38 (d := d_law_choose) rfl
  obtain ⟨fd39, F39⟩ := c.def_ 39 (d := d_law_made) rfl
  obtain ⟨fd40, F40⟩ := c.def_ 40 (d := d_law_named) rfl
  obtain ⟨fd41, F41⟩ := c.def_ 41 (d := d_law_kinds) rfl
  obtain ⟨fd42, F42⟩ := c.def_ 42 (d := d_law_bases) rfl
  obtain ⟨fd43, F43⟩ := c.def_ 43 (d := d_law_fields) rfl
  obtain ⟨fd44, F44⟩ := c.def_ 44 (d := d_law_parts_apart) rfl
  obtain ⟨fd45, F45⟩ := c.def_ 45 (d := d_law) rfl
  obtain ⟨e1, e⟩ := My.ba e
  obtain ⟨e2, e⟩ := My.ba e
  obtain ⟨e3, e⟩ := My.ba e
  obtain ⟨e4, e⟩ := My.ba e
  obtain ⟨e5, e⟩ := My.ba e
  obtain ⟨e6, e7⟩ := My.ba e
  have cl := all36 e6
  have ea := hfa.symm.trans (He.glo_ok X G (c.fact 9 (f := .glo "law") rfl))
  cases ea
  have T : Tx K mg := ⟨He.free_ok X G (c.fact 10 (f := .free "len") rfl), He.free_ok X G (c.fact 11 (f := .free "int") rfl), He.free_ok X G (c.fact 12 (f := .free "max") rfl), He.free_ok X G (c.fact 13 (f := .free "min") rfl), He.free_ok X G (c.fact 14 (f := .free "range") rfl), He.free_ok X G (c.fact 15 (f := .free "isinstance") rfl), He.free_ok X G (c.fact 16 (f := .free "repr") rfl), He.free_ok X G (c.fact 17 (f := .free "ValueError") rfl), He.free_ok X G (c.fact 18 (f := .free "LookupError") rfl), He.free_ok X G (c.fact 19 (f := .free "RuntimeError") rfl), He.free_ok X G (c.fact 20 (f := .free "OverflowError") rfl), vIB_ok e1, vIB_ok e2, vIB_ok e3, vIB_ok e4⟩
  have tc : ∀ i, i < 36 → TcA K mg (nm.getD i "") (bnI (due.getD i 9)) (bmI (due.getD i 9)) (((fsL .non).getD i []).map (·.1)) := fun i hi => tcB_ok X G e5 (match due.getD i 9 with | 0 => rfl | 1 => rfl | 2 => rfl | _ + 3 => rfl) (cl i hi)
  have no : ∀ i, i < 36 → ∀ f : Str, f ∈ ((fsL .non).getD i []).map (·.1) → PySem.W.findIn K (.ref (Cn K i)) f = some none := fun i hi => (tc i hi).no
  have TF : TabF K := ⟨fun i hi => (tc i hi).c.xf, no⟩
  have hm : ∀ i, i < 36 → mroIs K (Cn K i) (bmI (due.getD i 9)) = true := fun i hi => (tc i hi).m
  have TB : Tab K := ⟨kit_own e7 hm fun i hi => (tc i hi).ty, kit_base hm (by decide +kernel) (by decide +kernel), kit_base hm (by decide +kernel) (by decide +kernel), kit_base hm (by decide +kernel) (by decide +kernel), kit_base hm (by decide +kernel) (by decide +kernel), fun i hi => (tc i hi).c.ec⟩
  have b := FunD.bindsA (ps := ["_law_script"]) F45 fun _ _ _ _ _ _ us hl => match us, hl with | [_], _ => rfl
  refine ⟨fd45, fun s v => b s [v] rfl, fun base hKb hbns => ?_⟩
  have Z0 : Tc K "InvalidBlock" bnVE bmVE ∧ mg "InvalidBlock" = some (.ref (He.ga K "InvalidBlock")) := ⟨(tc 0 (by decide)).c, (tc 0 (by decide)).g⟩
  have X0 : My.GxC P w K mg base "InvalidBlock" bnVE bmVE fd0 ["self", "value"] 1 (My.sp_exc K "InvalidBlock" "value") := ⟨Z0.1.e, Z0.1.i, Z0.1.t, in_InvalidBlock T Z0.1 (no 0 (by decide) "value" (by decide +kernel)) F0, Z0.2⟩
  have G0 : GcX P w K mg base "InvalidBlock" bnVE bmVE ["self", "value"] (My.sp_exc K "InvalidBlock" "value") := ⟨fd0, X0, F0.bindsN fun _ _ _ _ _ _ us hl => match us, hl with | [_, _], _ => rfl, kbAll (ks := ["value"]) (g := fun ws => ws) F0 fun _ _ _ _ _ _ _ ws hl => match ws, hl with | [_], _ => rfl⟩
  have Z1 : Tc K "InvalidRecord" bnVE bmVE ∧ mg "InvalidRecord" = some (.ref (He.ga K "InvalidRecord")) := ⟨(tc 1 (by decide)).c, (tc 1 (by decide)).g⟩
  have X1 : My.GxC P w K mg base "InvalidRecord" bnVE bmVE fd1 ["self", "value"] 1 (My.sp_exc K "InvalidRecord" "value") := ⟨Z1.1.e, Z1.1.i, Z1.1.t, in_InvalidRecord T Z1.1 (no 1 (by decide) "value" (by decide +kernel)) F1, Z1.2⟩
  have G1 : GcX P w K mg base "InvalidRecord" bnVE bmVE ["self", "value"] (My.sp_exc K "InvalidRecord" "value") := ⟨fd1, X1, F1.bindsN fun _ _ _ _ _ _ us hl => match us, hl with | [_, _], _ => rfl, kbAll (ks := ["value"]) (g := fun ws => ws) F1 fun _ _ _ _ _ _ _ ws hl => match ws, hl with | [_], _ => rfl⟩
  have Z2 : Tc K "InvalidDisks" bnVE bmVE ∧ mg "InvalidDisks" = some (.ref (He.ga K "InvalidDisks")) := ⟨(tc 2 (by decide)).c, (tc 2 (by decide)).g⟩
  have X2 : My.GxC P w K mg base "InvalidDisks" bnVE bmVE fd2 ["self"] 1 (My.sp_e0 K "InvalidDisks") := ⟨Z2.1.e, Z2.1.i, Z2.1.t, in_InvalidDisks T Z2.1  F2, Z2.2⟩
  have G2 : GcX P w K mg base "InvalidDisks" bnVE bmVE ["self"] (My.sp_e0 K "InvalidDisks") := ⟨fd2, X2, F2.bindsN fun _ _ _ _ _ _ us hl => match us, hl with | [_], _ => rfl, kbAll (ks := []) (g := fun ws => ws) F2 fun _ _ _ _ _ _ _ ws hl => match ws, hl with | [], _ => rfl⟩
  have Z3 : Tc K "InvalidName" bnVE bmVE ∧ mg "InvalidName" = some (.ref (He.ga K "InvalidName")) := ⟨(tc 3 (by decide)).c, (tc 3 (by decide)).g⟩
  have X3 : My.GxC P w K mg base "InvalidName" bnVE bmVE fd3 ["self", "value"] 1 (My.sp_exc K "InvalidName" "value") := ⟨Z3.1.e, Z3.1.i, Z3.1.t, in_InvalidName T Z3.1 (no 3 (by decide) "value" (by decide +kernel)) F3, Z3.2⟩
  have G3 : GcX P w K mg base "InvalidName" bnVE bmVE ["self", "value"] (My.sp_exc K "InvalidName" "value") := ⟨fd3, X3, F3.bindsN fun _ _ _ _ _ _ us hl => match us, hl with | [_, _], _ => rfl, kbAll (ks := ["value"]) (g := fun ws => ws) F3 fun _ _ _ _ _ _ _ ws hl => match ws, hl with | [_], _ => rfl⟩
  have Z4 : Tc K "InvalidIndex" bnVE bmVE ∧ mg "InvalidIndex" = some (.ref (He.ga K "InvalidIndex")) := ⟨(tc 4 (by decide)).c, (tc 4 (by decide)).g⟩
  have X4 : My.GxC P w K mg base "InvalidIndex" bnVE bmVE fd4 ["self", "value"] 1 (My.sp_exc K "InvalidIndex" "value") := ⟨Z4.1.e, Z4.1.i, Z4.1.t, in_InvalidIndex T Z4.1 (no 4 (by decide) "value" (by decide +kernel)) F4, Z4.2⟩
  have G4 : GcX P w K mg base "InvalidIndex" bnVE bmVE ["self", "value"] (My.sp_exc K "InvalidIndex" "value") := ⟨fd4, X4, F4.bindsN fun _ _ _ _ _ _ us hl => match us, hl with | [_, _], _ => rfl, kbAll (ks := ["value"]) (g := fun ws => ws) F4 fun _ _ _ _ _ _ _ ws hl => match ws, hl with | [_], _ => rfl⟩
  have Z5 : Tc K "InvalidSize" bnVE bmVE ∧ mg "InvalidSize" = some (.ref (He.ga K "InvalidSize")) := ⟨(tc 5 (by decide)).c, (tc 5 (by decide)).g⟩
  have X5 : My.GxC P w K mg base "InvalidSize" bnVE bmVE fd5 ["self", "value"] 1 (My.sp_exc K "InvalidSize" "value") := ⟨Z5.1.e, Z5.1.i, Z5.1.t, in_InvalidSize T Z5.1 (no 5 (by decide) "value" (by decide +kernel)) F5, Z5.2⟩
  have G5 : GcX P w K mg base "InvalidSize" bnVE bmVE ["self", "value"] (My.sp_exc K "InvalidSize" "value") := ⟨fd5, X5, F5.bindsN fun _ _ _ _ _ _ us hl => match us, hl with | [_, _], _ => rfl, kbAll (ks := ["value"]) (g := fun ws => ws) F5 fun _ _ _ _ _ _ _ ws hl => match ws, hl with | [_], _ => rfl⟩
  have Z6 : Tc K "InvalidData" bnVE bmVE ∧ mg "InvalidData" = some (.ref (He.ga K "InvalidData")) := ⟨(tc 6 (by decide)).c, (tc 6 (by decide)).g⟩
  have X6 : My.GxC P w K mg base "InvalidData" bnVE bmVE fd6 ["self", "value"] 1 (My.sp_exc K "InvalidData" "value") := ⟨Z6.1.e, Z6.1.i, Z6.1.t, in_InvalidData T Z6.1 (no 6 (by decide) "value" (by decide +kernel)) F6, Z6.2⟩
  have G6 : GcX P w K mg base "InvalidData" bnVE bmVE ["self", "value"] (My.sp_exc K "InvalidData" "value") := ⟨fd6, X6, F6.bindsN fun _ _ _ _ _ _ us hl => match us, hl with | [_, _], _ => rfl, kbAll (ks := ["value"]) (g := fun ws => ws) F6 fun _ _ _ _ _ _ _ ws hl => match ws, hl with | [_], _ => rfl⟩
  have Z7 : Tc K "InvalidCount" bnVE bmVE ∧ mg "InvalidCount" = some (.ref (He.ga K "InvalidCount")) := ⟨(tc 7 (by decide)).c, (tc 7 (by decide)).g⟩
  have X7 : My.GxC P w K mg base "InvalidCount" bnVE bmVE fd7 ["self", "value"] 1 (My.sp_exc K "InvalidCount" "value") := ⟨Z7.1.e, Z7.1.i, Z7.1.t, in_InvalidCount T Z7.1 (no 7 (by decide) "value" (by decide +kernel)) F7, Z7.2⟩
  have G7 : GcX P w K mg base "InvalidCount" bnVE bmVE ["self", "value"] (My.sp_exc K "InvalidCount" "value") := ⟨fd7, X7, F7.bindsN fun _ _ _ _ _ _ us hl => match us, hl with | [_, _], _ => rfl, kbAll (ks := ["value"]) (g := fun ws => ws) F7 fun _ _ _ _ _ _ _ ws hl => match ws, hl with | [_], _ => rfl⟩
  have Z8 : Tc K "InvalidArea" bnVE bmVE ∧ mg "InvalidArea" = some (.ref (He.ga K "InvalidArea")) := ⟨(tc 8 (by decide)).c, (tc 8 (by decide)).g⟩
  have X8 : My.GxC P w K mg base "InvalidArea" bnVE bmVE fd8 ["self", "value"] 1 (My.sp_exc K "InvalidArea" "value") := ⟨Z8.1.e, Z8.1.i, Z8.1.t, in_InvalidArea T Z8.1 (no 8 (by decide) "value" (by decide +kernel)) F8, Z8.2⟩
  have G8 : GcX P w K mg base "InvalidArea" bnVE bmVE ["self", "value"] (My.sp_exc K "InvalidArea" "value") := ⟨fd8, X8, F8.bindsN fun _ _ _ _ _ _ us hl => match us, hl with | [_, _], _ => rfl, kbAll (ks := ["value"]) (g := fun ws => ws) F8 fun _ _ _ _ _ _ _ ws hl => match ws, hl with | [_], _ => rfl⟩
  have Z9 : Tc K "UnknownName" bnLE bmLE ∧ mg "UnknownName" = some (.ref (He.ga K "UnknownName")) := ⟨(tc 9 (by decide)).c, (tc 9 (by decide)).g⟩
  have X9 : My.GxC P w K mg base "UnknownName" bnLE bmLE fd9 ["self", "name"] 1 (My.sp_exc K "UnknownName" "name") := ⟨Z9.1.e, Z9.1.i, Z9.1.t, in_UnknownName T Z9.1 (no 9 (by decide) "name" (by decide +kernel)) F9, Z9.2⟩
  have G9 : GcX P w K mg base "UnknownName" bnLE bmLE ["self", "name"] (My.sp_exc K "UnknownName" "name") := ⟨fd9, X9, F9.bindsN fun _ _ _ _ _ _ us hl => match us, hl with | [_, _], _ => rfl, kbAll (ks := ["name"]) (g := fun ws => ws) F9 fun _ _ _ _ _ _ _ ws hl => match ws, hl with | [_], _ => rfl⟩
  have Z10 : Tc K "NameTaken" bnLE bmLE ∧ mg "NameTaken" = some (.ref (He.ga K "NameTaken")) := ⟨(tc 10 (by decide)).c, (tc 10 (by decide)).g⟩
  have X10 : My.GxC P w K mg base "NameTaken" bnLE bmLE fd10 ["self", "name"] 1 (My.sp_exc K "NameTaken" "name") := ⟨Z10.1.e, Z10.1.i, Z10.1.t, in_NameTaken T Z10.1 (no 10 (by decide) "name" (by decide +kernel)) F10, Z10.2⟩
  have G10 : GcX P w K mg base "NameTaken" bnLE bmLE ["self", "name"] (My.sp_exc K "NameTaken" "name") := ⟨fd10, X10, F10.bindsN fun _ _ _ _ _ _ us hl => match us, hl with | [_, _], _ => rfl, kbAll (ks := ["name"]) (g := fun ws => ws) F10 fun _ _ _ _ _ _ _ ws hl => match ws, hl with | [_], _ => rfl⟩
  have Z11 : Tc K "NotVolume" bnRE bmRE ∧ mg "NotVolume" = some (.ref (He.ga K "NotVolume")) := ⟨(tc 11 (by decide)).c, (tc 11 (by decide)).g⟩
  have X11 : My.GxC P w K mg base "NotVolume" bnRE bmRE fd11 ["self", "name"] 1 (My.sp_exc K "NotVolume" "name") := ⟨Z11.1.e, Z11.1.i, Z11.1.t, in_NotVolume T Z11.1 (no 11 (by decide) "name" (by decide +kernel)) F11, Z11.2⟩
  have G11 : GcX P w K mg base "NotVolume" bnRE bmRE ["self", "name"] (My.sp_exc K "NotVolume" "name") := ⟨fd11, X11, F11.bindsN fun _ _ _ _ _ _ us hl => match us, hl with | [_, _], _ => rfl, kbAll (ks := ["name"]) (g := fun ws => ws) F11 fun _ _ _ _ _ _ _ ws hl => match ws, hl with | [_], _ => rfl⟩
  have Z12 : Tc K "NotSnapshot" bnRE bmRE ∧ mg "NotSnapshot" = some (.ref (He.ga K "NotSnapshot")) := ⟨(tc 12 (by decide)).c, (tc 12 (by decide)).g⟩
  have X12 : My.GxC P w K mg base "NotSnapshot" bnRE bmRE fd12 ["self", "name"] 1 (My.sp_exc K "NotSnapshot" "name") := ⟨Z12.1.e, Z12.1.i, Z12.1.t, in_NotSnapshot T Z12.1 (no 12 (by decide) "name" (by decide +kernel)) F12, Z12.2⟩
  have G12 : GcX P w K mg base "NotSnapshot" bnRE bmRE ["self", "name"] (My.sp_exc K "NotSnapshot" "name") := ⟨fd12, X12, F12.bindsN fun _ _ _ _ _ _ us hl => match us, hl with | [_, _], _ => rfl, kbAll (ks := ["name"]) (g := fun ws => ws) F12 fun _ _ _ _ _ _ _ ws hl => match ws, hl with | [_], _ => rfl⟩
  have Z13 : Tc K "NotAncestor" bnRE bmRE ∧ mg "NotAncestor" = some (.ref (He.ga K "NotAncestor")) := ⟨(tc 13 (by decide)).c, (tc 13 (by decide)).g⟩
  have X13 : My.GxC P w K mg base "NotAncestor" bnRE bmRE fd13 ["self", "name"] 1 (My.sp_exc K "NotAncestor" "name") := ⟨Z13.1.e, Z13.1.i, Z13.1.t, in_NotAncestor T Z13.1 (no 13 (by decide) "name" (by decide +kernel)) F13, Z13.2⟩
  have G13 : GcX P w K mg base "NotAncestor" bnRE bmRE ["self", "name"] (My.sp_exc K "NotAncestor" "name") := ⟨fd13, X13, F13.bindsN fun _ _ _ _ _ _ us hl => match us, hl with | [_, _], _ => rfl, kbAll (ks := ["name"]) (g := fun ws => ws) F13 fun _ _ _ _ _ _ _ ws hl => match ws, hl with | [_], _ => rfl⟩
  have Z14 : Tc K "Branched" bnRE bmRE ∧ mg "Branched" = some (.ref (He.ga K "Branched")) := ⟨(tc 14 (by decide)).c, (tc 14 (by decide)).g⟩
  have X14 : My.GxC P w K mg base "Branched" bnRE bmRE fd14 ["self", "name"] 1 (My.sp_exc K "Branched" "name") := ⟨Z14.1.e, Z14.1.i, Z14.1.t, in_Branched T Z14.1 (no 14 (by decide) "name" (by decide +kernel)) F14, Z14.2⟩
  have G14 : GcX P w K mg base "Branched" bnRE bmRE ["self", "name"] (My.sp_exc K "Branched" "name") := ⟨fd14, X14, F14.bindsN fun _ _ _ _ _ _ us hl => match us, hl with | [_, _], _ => rfl, kbAll (ks := ["name"]) (g := fun ws => ws) F14 fun _ _ _ _ _ _ _ ws hl => match ws, hl with | [_], _ => rfl⟩
  have Z15 : Tc K "Busy" bnRE bmRE ∧ mg "Busy" = some (.ref (He.ga K "Busy")) := ⟨(tc 15 (by decide)).c, (tc 15 (by decide)).g⟩
  have X15 : My.GxC P w K mg base "Busy" bnRE bmRE fd15 ["self"] 1 (My.sp_e0 K "Busy") := ⟨Z15.1.e, Z15.1.i, Z15.1.t, in_Busy T Z15.1  F15, Z15.2⟩
  have G15 : GcX P w K mg base "Busy" bnRE bmRE ["self"] (My.sp_e0 K "Busy") := ⟨fd15, X15, F15.bindsN fun _ _ _ _ _ _ us hl => match us, hl with | [_], _ => rfl, kbAll (ks := []) (g := fun ws => ws) F15 fun _ _ _ _ _ _ _ ws hl => match ws, hl with | [], _ => rfl⟩
  have Z16 : Tc K "Closed" bnRE bmRE ∧ mg "Closed" = some (.ref (He.ga K "Closed")) := ⟨(tc 16 (by decide)).c, (tc 16 (by decide)).g⟩
  have X16 : My.GxC P w K mg base "Closed" bnRE bmRE fd16 ["self"] 1 (My.sp_e0 K "Closed") := ⟨Z16.1.e, Z16.1.i, Z16.1.t, in_Closed T Z16.1  F16, Z16.2⟩
  have G16 : GcX P w K mg base "Closed" bnRE bmRE ["self"] (My.sp_e0 K "Closed") := ⟨fd16, X16, F16.bindsN fun _ _ _ _ _ _ us hl => match us, hl with | [_], _ => rfl, kbAll (ks := []) (g := fun ws => ws) F16 fun _ _ _ _ _ _ _ ws hl => match ws, hl with | [], _ => rfl⟩
  have Z17 : Tc K "NoStore" bnRE bmRE ∧ mg "NoStore" = some (.ref (He.ga K "NoStore")) := ⟨(tc 17 (by decide)).c, (tc 17 (by decide)).g⟩
  have X17 : My.GxC P w K mg base "NoStore" bnRE bmRE fd17 ["self"] 1 (My.sp_e0 K "NoStore") := ⟨Z17.1.e, Z17.1.i, Z17.1.t, in_NoStore T Z17.1  F17, Z17.2⟩
  have G17 : GcX P w K mg base "NoStore" bnRE bmRE ["self"] (My.sp_e0 K "NoStore") := ⟨fd17, X17, F17.bindsN fun _ _ _ _ _ _ us hl => match us, hl with | [_], _ => rfl, kbAll (ks := []) (g := fun ws => ws) F17 fun _ _ _ _ _ _ _ ws hl => match ws, hl with | [], _ => rfl⟩
  have Z18 : Tc K "Damaged" bnRE bmRE ∧ mg "Damaged" = some (.ref (He.ga K "Damaged")) := ⟨(tc 18 (by decide)).c, (tc 18 (by decide)).g⟩
  have X18 : My.GxC P w K mg base "Damaged" bnRE bmRE fd18 ["self", "name", "index"] 1 (My.sp_e2 K "Damaged" "name" "index") := ⟨Z18.1.e, Z18.1.i, Z18.1.t, in_Damaged T Z18.1 (no 18 (by decide) "name" (by decide +kernel)) (no 18 (by decide) "index" (by decide +kernel)) F18, Z18.2⟩
  have G18 : GcX P w K mg base "Damaged" bnRE bmRE ["self", "name", "index"] (My.sp_e2 K "Damaged" "name" "index") := ⟨fd18, X18, F18.bindsN fun _ _ _ _ _ _ us hl => match us, hl with | [_, _, _], _ => rfl, kbAll (ks := ["name", "index"]) (g := fun ws => ws) F18 fun _ _ _ _ _ _ _ ws hl => match ws, hl with | [_, _], _ => rfl⟩
  have Z19 : Tc K "PowerLoss" bnRE bmRE ∧ mg "PowerLoss" = some (.ref (He.ga K "PowerLoss")) := ⟨(tc 19 (by decide)).c, (tc 19 (by decide)).g⟩
  have X19 : My.GxC P w K mg base "PowerLoss" bnRE bmRE fd19 ["self"] 1 (My.sp_e0 K "PowerLoss") := ⟨Z19.1.e, Z19.1.i, Z19.1.t, in_PowerLoss T Z19.1  F19, Z19.2⟩
  have G19 : GcX P w K mg base "PowerLoss" bnRE bmRE ["self"] (My.sp_e0 K "PowerLoss") := ⟨fd19, X19, F19.bindsN fun _ _ _ _ _ _ us hl => match us, hl with | [_], _ => rfl, kbAll (ks := []) (g := fun ws => ws) F19 fun _ _ _ _ _ _ _ ws hl => match ws, hl with | [], _ => rfl⟩
  have Z20 : Tc K "NoSpace" bnOE bmOE ∧ mg "NoSpace" = some (.ref (He.ga K "NoSpace")) := ⟨(tc 20 (by decide)).c, (tc 20 (by decide)).g⟩
  have X20 : My.GxC P w K mg base "NoSpace" bnOE bmOE fd20 ["self", "missing"] 1 (My.sp_exc K "NoSpace" "missing") := ⟨Z20.1.e, Z20.1.i, Z20.1.t, in_NoSpace T Z20.1 (no 20 (by decide) "missing" (by decide +kernel)) F20, Z20.2⟩
  have G20 : GcX P w K mg base "NoSpace" bnOE bmOE ["self", "missing"] (My.sp_exc K "NoSpace" "missing") := ⟨fd20, X20, F20.bindsN fun _ _ _ _ _ _ us hl => match us, hl with | [_, _], _ => rfl, kbAll (ks := ["missing"]) (g := fun ws => ws) F20 fun _ _ _ _ _ _ _ ws hl => match ws, hl with | [_], _ => rfl⟩
  have Z21 : Tc K "TooMany" bnOE bmOE ∧ mg "TooMany" = some (.ref (He.ga K "TooMany")) := ⟨(tc 21 (by decide)).c, (tc 21 (by decide)).g⟩
  have X21 : My.GxC P w K mg base "TooMany" bnOE bmOE fd21 ["self", "limit"] 1 (My.sp_exc K "TooMany" "limit") := ⟨Z21.1.e, Z21.1.i, Z21.1.t, in_TooMany T Z21.1 (no 21 (by decide) "limit" (by decide +kernel)) F21, Z21.2⟩
  have G21 : GcX P w K mg base "TooMany" bnOE bmOE ["self", "limit"] (My.sp_exc K "TooMany" "limit") := ⟨fd21, X21, F21.bindsN fun _ _ _ _ _ _ us hl => match us, hl with | [_, _], _ => rfl, kbAll (ks := ["limit"]) (g := fun ws => ws) F21 fun _ _ _ _ _ _ _ ws hl => match ws, hl with | [_], _ => rfl⟩
  have Z22 : Tc K "QuotaExceeded" bnOE bmOE ∧ mg "QuotaExceeded" = some (.ref (He.ga K "QuotaExceeded")) := ⟨(tc 22 (by decide)).c, (tc 22 (by decide)).g⟩
  have X22 : My.GxC P w K mg base "QuotaExceeded" bnOE bmOE fd22 ["self", "name"] 1 (My.sp_exc K "QuotaExceeded" "name") := ⟨Z22.1.e, Z22.1.i, Z22.1.t, in_QuotaExceeded T Z22.1 (no 22 (by decide) "name" (by decide +kernel)) F22, Z22.2⟩
  have G22 : GcX P w K mg base "QuotaExceeded" bnOE bmOE ["self", "name"] (My.sp_exc K "QuotaExceeded" "name") := ⟨fd22, X22, F22.bindsN fun _ _ _ _ _ _ us hl => match us, hl with | [_, _], _ => rfl, kbAll (ks := ["name"]) (g := fun ws => ws) F22 fun _ _ _ _ _ _ _ ws hl => match ws, hl with | [_], _ => rfl⟩
  have Z23 : Tc K "InvalidPart" bnVE bmVE ∧ mg "InvalidPart" = some (.ref (He.ga K "InvalidPart")) := ⟨(tc 23 (by decide)).c, (tc 23 (by decide)).g⟩
  have X23 : My.GxC P w K mg base "InvalidPart" bnVE bmVE fd23 ["self", "value"] 1 (My.sp_exc K "InvalidPart" "value") := ⟨Z23.1.e, Z23.1.i, Z23.1.t, in_InvalidPart T Z23.1 (no 23 (by decide) "value" (by decide +kernel)) F23, Z23.2⟩
  have G23 : GcX P w K mg base "InvalidPart" bnVE bmVE ["self", "value"] (My.sp_exc K "InvalidPart" "value") := ⟨fd23, X23, F23.bindsN fun _ _ _ _ _ _ us hl => match us, hl with | [_, _], _ => rfl, kbAll (ks := ["value"]) (g := fun ws => ws) F23 fun _ _ _ _ _ _ _ ws hl => match ws, hl with | [_], _ => rfl⟩
  have Z24 : Tc K "NoBase" bnLE bmLE ∧ mg "NoBase" = some (.ref (He.ga K "NoBase")) := ⟨(tc 24 (by decide)).c, (tc 24 (by decide)).g⟩
  have X24 : My.GxC P w K mg base "NoBase" bnLE bmLE fd24 ["self", "name"] 1 (My.sp_exc K "NoBase" "name") := ⟨Z24.1.e, Z24.1.i, Z24.1.t, in_NoBase T Z24.1 (no 24 (by decide) "name" (by decide +kernel)) F24, Z24.2⟩
  have G24 : GcX P w K mg base "NoBase" bnLE bmLE ["self", "name"] (My.sp_exc K "NoBase" "name") := ⟨fd24, X24, F24.bindsN fun _ _ _ _ _ _ us hl => match us, hl with | [_, _], _ => rfl, kbAll (ks := ["name"]) (g := fun ws => ws) F24 fun _ _ _ _ _ _ _ ws hl => match ws, hl with | [_], _ => rfl⟩
  have Z25 : Tc K "WrongPart" bnRE bmRE ∧ mg "WrongPart" = some (.ref (He.ga K "WrongPart")) := ⟨(tc 25 (by decide)).c, (tc 25 (by decide)).g⟩
  have X25 : My.GxC P w K mg base "WrongPart" bnRE bmRE fd25 ["self", "number"] 1 (My.sp_exc K "WrongPart" "number") := ⟨Z25.1.e, Z25.1.i, Z25.1.t, in_WrongPart T Z25.1 (no 25 (by decide) "number" (by decide +kernel)) F25, Z25.2⟩
  have G25 : GcX P w K mg base "WrongPart" bnRE bmRE ["self", "number"] (My.sp_exc K "WrongPart" "number") := ⟨fd25, X25, F25.bindsN fun _ _ _ _ _ _ us hl => match us, hl with | [_, _], _ => rfl, kbAll (ks := ["number"]) (g := fun ws => ws) F25 fun _ _ _ _ _ _ _ ws hl => match ws, hl with | [_], _ => rfl⟩
  have Z26 : Tc K "BaseDiffers" bnRE bmRE ∧ mg "BaseDiffers" = some (.ref (He.ga K "BaseDiffers")) := ⟨(tc 26 (by decide)).c, (tc 26 (by decide)).g⟩
  have X26 : My.GxC P w K mg base "BaseDiffers" bnRE bmRE fd26 ["self", "name"] 1 (My.sp_exc K "BaseDiffers" "name") := ⟨Z26.1.e, Z26.1.i, Z26.1.t, in_BaseDiffers T Z26.1 (no 26 (by decide) "name" (by decide +kernel)) F26, Z26.2⟩
  have G26 : GcX P w K mg base "BaseDiffers" bnRE bmRE ["self", "name"] (My.sp_exc K "BaseDiffers" "name") := ⟨fd26, X26, F26.bindsN fun _ _ _ _ _ _ us hl => match us, hl with | [_, _], _ => rfl, kbAll (ks := ["name"]) (g := fun ws => ws) F26 fun _ _ _ _ _ _ _ ws hl => match ws, hl with | [_], _ => rfl⟩
  have Z27 : Tc K "Altered" bnRE bmRE ∧ mg "Altered" = some (.ref (He.ga K "Altered")) := ⟨(tc 27 (by decide)).c, (tc 27 (by decide)).g⟩
  have X27 : My.GxC P w K mg base "Altered" bnRE bmRE fd27 ["self", "name"] 1 (My.sp_exc K "Altered" "name") := ⟨Z27.1.e, Z27.1.i, Z27.1.t, in_Altered T Z27.1 (no 27 (by decide) "name" (by decide +kernel)) F27, Z27.2⟩
  have G27 : GcX P w K mg base "Altered" bnRE bmRE ["self", "name"] (My.sp_exc K "Altered" "name") := ⟨fd27, X27, F27.bindsN fun _ _ _ _ _ _ us hl => match us, hl with | [_, _], _ => rfl, kbAll (ks := ["name"]) (g := fun ws => ws) F27 fun _ _ _ _ _ _ _ ws hl => match ws, hl with | [_], _ => rfl⟩
  have Z28 : Tc K "Clashing" bnRE bmRE ∧ mg "Clashing" = some (.ref (He.ga K "Clashing")) := ⟨(tc 28 (by decide)).c, (tc 28 (by decide)).g⟩
  have X28 : My.GxC P w K mg base "Clashing" bnRE bmRE fd28 ["self", "indexes"] 1 (My.sp_exc K "Clashing" "indexes") := ⟨Z28.1.e, Z28.1.i, Z28.1.t, in_Clashing T Z28.1 (no 28 (by decide) "indexes" (by decide +kernel)) F28, Z28.2⟩
  have G28 : GcX P w K mg base "Clashing" bnRE bmRE ["self", "indexes"] (My.sp_exc K "Clashing" "indexes") := ⟨fd28, X28, F28.bindsN fun _ _ _ _ _ _ us hl => match us, hl with | [_, _], _ => rfl, kbAll (ks := ["indexes"]) (g := fun ws => ws) F28 fun _ _ _ _ _ _ _ ws hl => match ws, hl with | [_], _ => rfl⟩
  have Z29 : Tc K "InvalidUser" bnVE bmVE ∧ mg "InvalidUser" = some (.ref (He.ga K "InvalidUser")) := ⟨(tc 29 (by decide)).c, (tc 29 (by decide)).g⟩
  have X29 : My.GxC P w K mg base "InvalidUser" bnVE bmVE fd29 ["self", "value"] 1 (My.sp_exc K "InvalidUser" "value") := ⟨Z29.1.e, Z29.1.i, Z29.1.t, in_InvalidUser T Z29.1 (no 29 (by decide) "value" (by decide +kernel)) F29, Z29.2⟩
  have G29 : GcX P w K mg base "InvalidUser" bnVE bmVE ["self", "value"] (My.sp_exc K "InvalidUser" "value") := ⟨fd29, X29, F29.bindsN fun _ _ _ _ _ _ us hl => match us, hl with | [_, _], _ => rfl, kbAll (ks := ["value"]) (g := fun ws => ws) F29 fun _ _ _ _ _ _ _ ws hl => match ws, hl with | [_], _ => rfl⟩
  have Z30 : Tc K "InvalidOperation" bnVE bmVE ∧ mg "InvalidOperation" = some (.ref (He.ga K "InvalidOperation")) := ⟨(tc 30 (by decide)).c, (tc 30 (by decide)).g⟩
  have X30 : My.GxC P w K mg base "InvalidOperation" bnVE bmVE fd30 ["self", "value"] 1 (My.sp_exc K "InvalidOperation" "value") := ⟨Z30.1.e, Z30.1.i, Z30.1.t, in_InvalidOperation T Z30.1 (no 30 (by decide) "value" (by decide +kernel)) F30, Z30.2⟩
  have G30 : GcX P w K mg base "InvalidOperation" bnVE bmVE ["self", "value"] (My.sp_exc K "InvalidOperation" "value") := ⟨fd30, X30, F30.bindsN fun _ _ _ _ _ _ us hl => match us, hl with | [_, _], _ => rfl, kbAll (ks := ["value"]) (g := fun ws => ws) F30 fun _ _ _ _ _ _ _ ws hl => match ws, hl with | [_], _ => rfl⟩
  have Z31 : Tc K "ParseError" bnVE bmVE ∧ mg "ParseError" = some (.ref (He.ga K "ParseError")) := ⟨(tc 31 (by decide)).c, (tc 31 (by decide)).g⟩
  have X31 : My.GxC P w K mg base "ParseError" bnVE bmVE fd31 ["self", "text"] 1 (My.sp_exc K "ParseError" "text") := ⟨Z31.1.e, Z31.1.i, Z31.1.t, in_ParseError T Z31.1 (no 31 (by decide) "text" (by decide +kernel)) F31, Z31.2⟩
  have G31 : GcX P w K mg base "ParseError" bnVE bmVE ["self", "text"] (My.sp_exc K "ParseError" "text") := ⟨fd31, X31, F31.bindsN fun _ _ _ _ _ _ us hl => match us, hl with | [_, _], _ => rfl, kbAll (ks := ["text"]) (g := fun ws => ws) F31 fun _ _ _ _ _ _ _ ws hl => match ws, hl with | [_], _ => rfl⟩
  have Z32 : Tc K "InvalidCommand" bnVE bmVE ∧ mg "InvalidCommand" = some (.ref (He.ga K "InvalidCommand")) := ⟨(tc 32 (by decide)).c, (tc 32 (by decide)).g⟩
  have X32 : My.GxC P w K mg base "InvalidCommand" bnVE bmVE fd32 ["self"] 1 (My.sp_e0 K "InvalidCommand") := ⟨Z32.1.e, Z32.1.i, Z32.1.t, in_InvalidCommand T Z32.1  F32, Z32.2⟩
  have G32 : GcX P w K mg base "InvalidCommand" bnVE bmVE ["self"] (My.sp_e0 K "InvalidCommand") := ⟨fd32, X32, F32.bindsN fun _ _ _ _ _ _ us hl => match us, hl with | [_], _ => rfl, kbAll (ks := []) (g := fun ws => ws) F32 fun _ _ _ _ _ _ _ ws hl => match ws, hl with | [], _ => rfl⟩
  have Z33 : Tc K "NothingToUndo" bnRE bmRE ∧ mg "NothingToUndo" = some (.ref (He.ga K "NothingToUndo")) := ⟨(tc 33 (by decide)).c, (tc 33 (by decide)).g⟩
  have X33 : My.GxC P w K mg base "NothingToUndo" bnRE bmRE fd33 ["self", "user"] 1 (My.sp_exc K "NothingToUndo" "user") := ⟨Z33.1.e, Z33.1.i, Z33.1.t, in_NothingToUndo T Z33.1 (no 33 (by decide) "user" (by decide +kernel)) F33, Z33.2⟩
  have G33 : GcX P w K mg base "NothingToUndo" bnRE bmRE ["self", "user"] (My.sp_exc K "NothingToUndo" "user") := ⟨fd33, X33, F33.bindsN fun _ _ _ _ _ _ us hl => match us, hl with | [_, _], _ => rfl, kbAll (ks := ["user"]) (g := fun ws => ws) F33 fun _ _ _ _ _ _ _ ws hl => match ws, hl with | [_], _ => rfl⟩
  have Z34 : Tc K "NothingToRedo" bnRE bmRE ∧ mg "NothingToRedo" = some (.ref (He.ga K "NothingToRedo")) := ⟨(tc 34 (by decide)).c, (tc 34 (by decide)).g⟩
  have X34 : My.GxC P w K mg base "NothingToRedo" bnRE bmRE fd34 ["self", "user"] 1 (My.sp_exc K "NothingToRedo" "user") := ⟨Z34.1.e, Z34.1.i, Z34.1.t, in_NothingToRedo T Z34.1 (no 34 (by decide) "user" (by decide +kernel)) F34, Z34.2⟩
  have G34 : GcX P w K mg base "NothingToRedo" bnRE bmRE ["self", "user"] (My.sp_exc K "NothingToRedo" "user") := ⟨fd34, X34, F34.bindsN fun _ _ _ _ _ _ us hl => match us, hl with | [_, _], _ => rfl, kbAll (ks := ["user"]) (g := fun ws => ws) F34 fun _ _ _ _ _ _ _ ws hl => match ws, hl with | [_], _ => rfl⟩
  have Z35 : Tc K "StillNeeded" bnRE bmRE ∧ mg "StillNeeded" = some (.ref (He.ga K "StillNeeded")) := ⟨(tc 35 (by decide)).c, (tc 35 (by decide)).g⟩
  have X35 : My.GxC P w K mg base "StillNeeded" bnRE bmRE fd35 ["self", "position"] 1 (My.sp_exc K "StillNeeded" "position") := ⟨Z35.1.e, Z35.1.i, Z35.1.t, in_StillNeeded T Z35.1 (no 35 (by decide) "position" (by decide +kernel)) F35, Z35.2⟩
  have G35 : GcX P w K mg base "StillNeeded" bnRE bmRE ["self", "position"] (My.sp_exc K "StillNeeded" "position") := ⟨fd35, X35, F35.bindsN fun _ _ _ _ _ _ us hl => match us, hl with | [_, _], _ => rfl, kbAll (ks := ["position"]) (g := fun ws => ws) F35 fun _ _ _ _ _ _ _ ws hl => match ws, hl with | [_], _ => rfl⟩
  have GR : GcR P w K mg base "Damaged" bnRE bmRE ["self", "name", "index"] (My.sp_e2 K "Damaged" "name" "index") := ⟨fd18, X18, kbAll (ks := ["index", "name"]) (g := List.reverse) F18 fun _ _ _ _ _ _ _ ws hl => match ws, hl with | [_, _], _ => rfl⟩
  have GS : Gs P w K mg base := ⟨Z0.2, Z1.2, Z2.2, Z3.2, Z4.2, Z5.2, Z6.2, Z7.2, Z8.2, Z9.2, Z10.2, Z11.2, Z12.2, Z13.2, Z14.2, Z15.2, Z16.2, Z17.2, Z18.2, Z19.2, Z20.2, Z21.2, Z22.2, Z23.2, Z24.2, Z25.2, Z26.2, Z27.2, Z28.2, Z29.2, Z30.2, Z31.2, Z32.2, Z33.2, Z34.2, Z35.2⟩
  have C0 : My.Cl P w K mg base "_law_pool" ["_law_script", "_law_k"] 1 (My.sp_pool K) := ⟨⟨fd36, ok_pool T F36, F36.bindsN fun _ _ _ _ _ _ us hl => match us, hl with | [_, _], _ => rfl⟩, F36.kp, He.glo_ok X G (c.fact 0 (f := .glo "_law_pool") rfl)⟩
  have C1 : My.Cl P w K mg base "_law_draw" ["_law_pool_here", "_law_many"] 1 sp_drawW := ⟨⟨fd37, ok_draw T F37, F37.bindsN fun _ _ _ _ _ _ us hl => match us, hl with | [_, _], _ => rfl⟩, F37.kp, He.glo_ok X G (c.fact 1 (f := .glo "_law_draw") rfl)⟩
  have C2 : My.Cl P w K mg base "_law_choose" ["_law_pool_here", "_law_items"] 2 sp_choose := ⟨⟨fd38, ok_choose T F38 C1, F38.bindsN fun _ _ _ _ _ _ us hl => match us, hl with | [_, _], _ => rfl⟩, F38.kp, He.glo_ok X G (c.fact 2 (f := .glo "_law_choose") rfl)⟩
  have C3 : My.Cl P w K mg base "_law_made" ["_law_held"] 3 (sp_made K) := ⟨⟨fd39, ok_made T F39 G0 G1 G2 G3 G4 G5 G6 G7 G8 G9 G10 G11 G12 G13 G14 G15 G16 G17 G18 G19 G20 G21 G22 G23 G24 G25 G26 G27 G28 G29 G30 G31 G32 G33 G34 G35, F39.bindsN fun _ _ _ _ _ _ us hl => match us, hl with | [_], _ => rfl⟩, F39.kp, He.glo_ok X G (c.fact 3 (f := .glo "_law_made") rfl)⟩
  have C4 : My.Cl P w K mg base "_law_named" ["_law_held"] 3 (sp_made K) := ⟨⟨fd40, ok_named T F40 G0 G1 G2 G3 G4 G5 G6 G7 G8 G9 G10 G11 G12 G13 G14 G15 G16 G17 G18 G19 G20 G21 G22 G23 G24 G25 G26 G27 G28 G29 G30 G31 G32 G33 G34 G35, F40.bindsN fun _ _ _ _ _ _ us hl => match us, hl with | [_], _ => rfl⟩, F40.kp, He.glo_ok X G (c.fact 4 (f := .glo "_law_named") rfl)⟩
  have C5 : My.Cl P w K mg base "_law_kinds" ["_law_e"] 1 (sp_kinds K) := ⟨⟨fd41, ok_kinds T TB GS F41, F41.bindsN fun _ _ _ _ _ _ us hl => match us, hl with | [_], _ => rfl⟩, F41.kp, He.glo_ok X G (c.fact 5 (f := .glo "_law_kinds") rfl)⟩
  have C6 : My.Cl P w K mg base "_law_bases" ["_law_e"] 1 (sp_bases K) := ⟨⟨fd42, ok_bases T TB F42, F42.bindsN fun _ _ _ _ _ _ us hl => match us, hl with | [_], _ => rfl⟩, F42.kp, He.glo_ok X G (c.fact 6 (f := .glo "_law_bases") rfl)⟩
  have C7 : My.Cl P w K mg base "_law_fields" ["_law_made_here"] 1 (sp_fields K) := ⟨⟨fd43, ok_fields T TF F43, F43.bindsN fun _ _ _ _ _ _ us hl => match us, hl with | [_], _ => rfl⟩, F43.kp, He.glo_ok X G (c.fact 7 (f := .glo "_law_fields") rfl)⟩
  have C8 : My.Cl P w K mg base "_law_parts_apart" [] 3 sp_true := ⟨⟨fd44, ok_parts T TF G18 GR F44, F44.bindsN fun _ _ _ _ _ _ us hl => match us, hl with | [], _ => rfl⟩, F44.kp, He.glo_ok X G (c.fact 8 (f := .glo "_law_parts_apart") rfl)⟩
  exact ok_law T F45 C0 C1 C2 C3 C4 C5 C6 C7 C8
end K36
open PySem PySem.W PySem.Calls PyProof.Rows
theorem PySem.Challenge.cw_livevolumes_k36_error_classes_holds : PySem.Challenge.rw_livevolumes_k36_error_classes.Holds := by
  w_on; o_law
  refine HandSHeadRun.head_any (r := K36.R) (q := view K36.R.prog [47]) (H := K36.hk) (ob := K36.ob) (M := 30000) (loose := K36.loose) (d := HandSHeadRun.topDef K36.R.prog 47) (kwd := []) K36.ob_eq
    (by kernel_rfl) (fun s => by kernel_rfl) K36.run (by kernel_rfl) (by kernel_rfl) (by kernel_rfl) (by rfl) (by first | assumption | decide +kernel) (by decide +kernel) ⟨rfl, rfl, rfl, rfl, rfl, by decide +kernel⟩ ?hw ?hc
  case hw => w_witness2
  case hc =>
    refine My.walk_ofG (l := PySem.Challenge.rw_livevolumes_k36_error_classes) (n := 63) (k := 4) (x := "_law_script") (CX := fun _ => L2.CX0) rfl (by decide) (by kernel_rfl) ⟨rfl, by decide, by decide⟩ ?F (fun _ _ _ _ _ z => z)
    intro w mg fa h Y G hmg0
    obtain ⟨K, KX, c, e⟩ := Y
    have hmg : mg ("law" : PySem.Str) = some (.ref fa) := by
      have e : (HandSHeadRun.topDef K36.R.prog 47).name = ("law" : PySem.Str) := by kernel_rfl
      rw [← e]
      exact hmg0
    obtain ⟨fd, hb, hF⟩ := K36.facts (P := (PySem.Challenge.rw_livevolumes_k36_error_classes).prog) (w := w) KX G hmg c e
    exact ⟨K, fd, K36.sp_law K, KX, hb, fun H a ns hl _ _ hS => ⟨a, ns, rfl, hS, hl, fun _ => rfl⟩, hF⟩
#print axioms PySem.Challenge.cw_livevolumes_k36_error_classes_holds

end

import PyProof.Rows.All
import Wide.All
import OpenK.AllK
import Wide.FinOn
import KE.KStateDown
import Lean
import HandS.ForMost
import HandS.Exc
import HandS.Wide
import HandS.Style
import HandS.SortInts
import HandS.DictComp
import HandS.Defaults
import HandS.EndBits
import HandS.Head0
import HandS.Head1
import HandS.Head2
import HandS.HeadEnd
import HandS.HeadHook1
import HandS.HeadHook2
import HandS.ExcInit
import HandS.ExcField
import HandS.ForExc
import HandS.IsInst
import HandS.MakeKw
import HandS.MakeKwOnly
import HandS.More
import HandS.ExcOwn
import HandS.WordsExc
import KE.KExcInit
import HandS.ExcIs
import PyProof.ExcBaseAll.RuntimeError
import PyProof.ExcBaseAll.LookupError
import PyProof.ExcBaseAll.OverflowError
import KE.KExcIs
import HandS.TryMany
import KE.KTryMore
import HandS.ExcValue
import HandS.GenCall
import HandS.GenYield
import HandS.GenList
import HandS.Comp
import PyProof.Rows.ListAppend
import HandS.Property
import HandS.Conv
import PyProof.ReprLen
import PyProof.Rows.SortStrRead
import PyProof.Rows.SortStr
import HandS.HeadWalk
import PySem.Challenge.RW_livevolumes_k01_disks
set_option Elab.async false
set_option linter.all false
set_option maxRecDepth 100000
set_option maxHeartbeats 4000000

section
namespace K01
open PySem PySem.Spec PyProof.Rows L2
def top (i : Nat) : Stmt := PySem.Challenge.pw_livevolumes_k01_disks.main.body.getD i (.Pass ⟨0, 0, 0, 0⟩)
/-- the empty tuples of Disk.crashed's defaults -/
def etN (x : Str) (K : PySem.W.Frag) : Addr := match K.lookup (He.fAd K ("Disk", some "crashed")) with
  | some ⟨_, _, .func u, _⟩ => (match u.kwdefaults with
    | .ref D => (match PySem.W.nsIn K D x with
      | some (some (.ref t)) => t
      | _ => 0)
    | _ => 0)
  | _ => 0
abbrev s_is_between : Stmt := top 10
def d_is_between : He.DefD := ⟨("is_between", none), "is_between", "is_between", defArgs s_is_between, defBody s_is_between, defScope s_is_between, [], []⟩
abbrev s_is_text : Stmt := top 11
def d_is_text : He.DefD := ⟨("is_text", none), "is_text", "is_text", defArgs s_is_text, defBody s_is_text, defScope s_is_text, [], []⟩
abbrev s_has_only : Stmt := top 12
def d_has_only : He.DefD := ⟨("has_only", none), "has_only", "has_only", defArgs s_has_only, defBody s_has_only, defScope s_has_only, [], []⟩
abbrev s_Disk_init : Stmt := inClass (top 13) 0
def d_Disk_init : He.DefD := ⟨("Disk", some "__init__"), "__init__", "Disk.__init__", defArgs s_Disk_init, defBody s_Disk_init, defScope s_Disk_init, [], []⟩
abbrev s_Disk_size : Stmt := inClass (top 13) 1
def d_Disk_size : He.DefD := ⟨("Disk", some "size"), "size", "Disk.size", defArgs s_Disk_size, defBody s_Disk_size, defScope s_Disk_size, [], []⟩
abbrev s_Disk_pending : Stmt := inClass (top 13) 2
def d_Disk_pending : He.DefD := ⟨("Disk", some "pending"), "pending", "Disk.pending", defArgs s_Disk_pending, defBody s_Disk_pending, defScope s_Disk_pending, [], []⟩
abbrev s_Disk_len : Stmt := inClass (top 13) 3
def d_Disk_len : He.DefD := ⟨("Disk", some "__len__"), "__len__", "Disk.__len__", defArgs s_Disk_len, defBody s_Disk_len, defScope s_Disk_len, [], []⟩
abbrev s_Disk_require : Stmt := inClass (top 13) 5
def d_Disk_require : He.DefD := ⟨("Disk", some "require"), "require", "Disk.require", defArgs s_Disk_require, defBody s_Disk_require, defScope s_Disk_require, [], []⟩
abbrev s_Disk_getitem : Stmt := inClass (top 13) 6
def d_Disk_getitem : He.DefD := ⟨("Disk", some "__getitem__"), "__getitem__", "Disk.__getitem__", defArgs s_Disk_getitem, defBody s_Disk_getitem, defScope s_Disk_getitem, [], []⟩
abbrev s_Disk_use_power : Stmt := inClass (top 13) 7
def d_Disk_use_power : He.DefD := ⟨("Disk", some "use_power"), "use_power", "Disk.use_power", defArgs s_Disk_use_power, defBody s_Disk_use_power, defScope s_Disk_use_power, [], []⟩
abbrev s_Disk_write : Stmt := inClass (top 13) 8
def d_Disk_write : He.DefD := ⟨("Disk", some "write"), "write", "Disk.write", defArgs s_Disk_write, defBody s_Disk_write, defScope s_Disk_write, [], []⟩
abbrev s_Disk_flush : Stmt := inClass (top 13) 9
def d_Disk_flush : He.DefD := ⟨("Disk", some "flush"), "flush", "Disk.flush", defArgs s_Disk_flush, defBody s_Disk_flush, defScope s_Disk_flush, [], []⟩
abbrev s_Disk_lose : Stmt := inClass (top 13) 11
def d_Disk_lose : He.DefD := ⟨("Disk", some "lose"), "lose", "Disk.lose", defArgs s_Disk_lose, defBody s_Disk_lose, defScope s_Disk_lose, [], []⟩
abbrev s_Disk_crashed : Stmt := inClass (top 13) 12
def d_Disk_crashed : He.DefD := ⟨("Disk", some "crashed"), "crashed", "Disk.crashed", defArgs s_Disk_crashed, defBody s_Disk_crashed, defScope s_Disk_crashed, [], [("kept", .adr (etN "kept")), ("torn", .adr (etN "torn"))]⟩
abbrev s_Disk_copy : Stmt := inClass (top 13) 13
def d_Disk_copy : He.DefD := ⟨("Disk", some "copy"), "copy", "Disk.copy", defArgs s_Disk_copy, defBody s_Disk_copy, defScope s_Disk_copy, [], []⟩
abbrev s_Disk_eq : Stmt := inClass (top 13) 15
def d_Disk_eq : He.DefD := ⟨("Disk", some "__eq__"), "__eq__", "Disk.__eq__", defArgs s_Disk_eq, defBody s_Disk_eq, defScope s_Disk_eq, [], []⟩
abbrev s_law_pool : Stmt := top 15
def d_law_pool : He.DefD := ⟨("_law_pool", none), "_law_pool", "_law_pool", defArgs s_law_pool, defBody s_law_pool, defScope s_law_pool, [], []⟩
abbrev s_law_draw : Stmt := top 16
def d_law_draw : He.DefD := ⟨("_law_draw", none), "_law_draw", "_law_draw", defArgs s_law_draw, defBody s_law_draw, defScope s_law_draw, [], []⟩
abbrev s_law_choose : Stmt := top 17
def d_law_choose : He.DefD := ⟨("_law_choose", none), "_law_choose", "_law_choose", defArgs s_law_choose, defBody s_law_choose, defScope s_law_choose, [], []⟩
abbrev s_law_held : Stmt := top 18
def d_law_held : He.DefD := ⟨("_law_held", none), "_law_held", "_law_held", defArgs s_law_held, defBody s_law_held, defScope s_law_held, [], []⟩
abbrev s_law_after : Stmt := top 19
def d_law_after : He.DefD := ⟨("_law_after", none), "_law_after", "_law_after", defArgs s_law_after, defBody s_law_after, defScope s_law_after, [], []⟩
abbrev s_law_check_losses : Stmt := top 20
def d_law_check_losses : He.DefD := ⟨("_law_check_losses", none), "_law_check_losses", "_law_check_losses", defArgs s_law_check_losses, defBody s_law_check_losses, defScope s_law_check_losses, [], []⟩
abbrev s_law : Stmt := top 21
def d_law : He.DefD := ⟨("law", none), "law", "law", defArgs s_law, defBody s_law, defScope s_law, [], []⟩
abbrev CD (K : PySem.W.Frag) : Addr := He.ga K "Disk"
end K01

end

section
namespace K01
open PySem PySem.Spec PyProof.Rows L2
abbrev s_Disk_crashes : Stmt := inClass (top 13) 14
def d_Disk_crashes : He.DefD := ⟨("Disk", some "crashes"), "crashes", "Disk.crashes", defArgs s_Disk_crashes, defBody s_Disk_crashes, defScope s_Disk_crashes, [], []⟩
end K01

end

section
namespace K01
open PySem PySem.Spec PyProof.Rows L2
/-- the getter of a property of Disk -/
def pgAd (K : PySem.W.Frag) (f : Str) : Addr := match PySem.W.recIn K (He.ma K (CD K) f) "property" with
  | some (.ref g :: _) => g
  | _ => 0
def prB (K : PySem.W.Frag) (f : Str) : Bool := He.eqO (PySem.W.findIn K (.ref (CD K)) f) (some (some (.ref (He.ma K (CD K) f)))) && (He.eqO (PySem.W.specialIn K (.ref (He.ma K (CD K) f)) "__get__") (some (some (.builtin "property.__get__"))) &&
  (decide (PySem.W.takesIn K (.ref (He.ma K (CD K) f)) = some true) && (match PySem.W.recIn K (He.ma K (CD K) f) "property" with
    | some (.ref _ :: _) => true
    | _ => false)))
/-- the def at a -/
def fnA (K : PySem.W.Frag) (a : Addr) : He.FnW := match K.lookup a with
  | some ⟨_, _, .func u, _⟩ => some (u.name, u.qualname, u.params, u.body, u.scope, u.globals, u.closure, u.builtins)
  | _ => none
def okA (K : PySem.W.Frag) (a : Addr) (d : He.DefD) : Bool := PySem.W.keepIn K (.ref a) && (match K.lookup a with
  | some ⟨_, _, .func u, _⟩ => PySem.W.codeIn K u.code d.qual && (He.dflB K u.defaults (d.dvs K) && He.kwdB K u.kwdefaults (d.kws K))
  | _ => false)
def tupE (K : PySem.W.Frag) (a : Addr) : Bool := match K.lookup a with
  | some ⟨.type t, _, .seq its _, _⟩ => t == "tuple" && its.toList.isEmpty
  | _ => false
def hookF {α : Type} (n : Nat) (see : PySem.W.Frag → α) (due : World → α) : PySem.W.Hook :=
  ⟨α, fun s => see (He.frG s.heap.get? (He.asD s.heap.get? n)), due, fun w h => ∃ K : PySem.W.Frag, K.In h ∧ see K = due w,
    fun _ _ e => ⟨_, He.frG_in, e⟩, fun _ _ _ h k => h.imp fun _ c => ⟨PySem.W.Frag.In.keeps c.1 k, c.2⟩⟩
/-- the same, off the tree -/
def seeT {α : Type} (n : Nat) (see : PySem.W.Frag → α) (s : PySem.W.SharedT) : α := let g := HandSHeadRun.getT s; see (He.frG g (He.asD g n))
def fn : List He.DefD := [d_is_between, d_is_text, d_has_only, d_Disk_init, d_Disk_len, d_Disk_require, d_Disk_getitem, d_Disk_use_power, d_Disk_write, d_Disk_flush, d_Disk_lose, d_Disk_crashed, d_Disk_copy, d_Disk_crashes, d_Disk_eq, d_law_pool, d_law_draw, d_law_choose, d_law_held, d_law_after, d_law_check_losses, d_law]
def fa : List He.Fa := [.glo "is_between", .glo "is_text", .glo "has_only", .glo "Disk", .glo "_law_pool", .glo "_law_draw", .glo "_law_choose", .glo "_law_held", .glo "_law_after", .glo "_law_check_losses", .glo "law", .free "len", .free "int", .free "bool", .free "str", .free "list", .free "tuple", .free "max", .free "min", .free "range", .free "enumerate", .free "isinstance", .free "all", .free "repr", .free "sorted", .int "MAX_BLOCKS" 1000, .int "MAX_SIGNS" 4000, .cls "Disk", .noat "Disk" "own_blocks", .noat "Disk" "own_shown", .noat "Disk" "own_queue", .noat "Disk" "own_left", .meth "Disk" "__len__", .meth "Disk" "require", .meth "Disk" "__getitem__", .meth "Disk" "use_power", .meth "Disk" "write", .meth "Disk" "flush", .meth "Disk" "lose", .meth "Disk" "crashed", .meth "Disk" "copy", .meth "Disk" "crashes", .meth "Disk" "__eq__", .mkr "Disk"]
def ex (K : PySem.W.Frag) : Bool := prB K "size" && (prB K "pending" && (okA K (pgAd K "size") d_Disk_size && (okA K (pgAd K "pending") d_Disk_pending && (tupE K (etN "kept" K) && (tupE K (etN "torn" K) && (decide (PySem.W.kitOne K (.type "int") (.ref (CD K)) = some false) && (decide (PySem.W.kitOne K (.type "list") (.ref (CD K)) = some false) && (decide (PySem.W.subIn K (.type "int") (.ref (CD K)) = some false) && (decide (PySem.W.subIn K (.type "list") (.ref (CD K)) = some false) && (decide (PySem.W.mroIn K (CD K) (.type "object") = some true) && (He.eqO (PySem.W.findIn K (.ref (CD K)) "__ne__") (some (some (.builtin "object.__ne__"))) && (He.eqO (PySem.W.findIn K (.ref (CD K)) "__class__") (some (some (.builtin "object.__class__"))) && (He.eqO (PySem.W.specialIn K (.builtin "object.__class__") "__get__") (some (some (.builtin "getset_descriptor.__get__"))) && (decide (PySem.W.takesIn K (.builtin "object.__class__") = some true) && (PySem.W.fnIn K (He.ma K (CD K) "__len__") && (PySem.W.fnIn K (He.ma K (CD K) "require") && (PySem.W.fnIn K (He.ma K (CD K) "__getitem__") && (PySem.W.fnIn K (He.ma K (CD K) "use_power") && (PySem.W.fnIn K (He.ma K (CD K) "write") && (PySem.W.fnIn K (He.ma K (CD K) "flush") && (PySem.W.fnIn K (He.ma K (CD K) "lose") && (PySem.W.fnIn K (He.ma K (CD K) "crashed") && (PySem.W.fnIn K (He.ma K (CD K) "copy") && (PySem.W.fnIn K (He.ma K (CD K) "__eq__")))))))))))))))))))))))))
abbrev R : PySem.W.OpenRow := PySem.W.OpenLaw.row PySem.Challenge.rw_livevolumes_k01_disks
def see (K : PySem.W.Frag) : He.AlD × (List He.FnW × Bool) := (He.obsD fa fn K, ([fnA K (pgAd K "size"), fnA K (pgAd K "pending")], ex K))
abbrev hk : PySem.W.Hook := hookF 6 see fun _ => (He.valD fn, ([d_Disk_size.val, d_Disk_pending.val], true))
def ob (s : PySem.W.SharedT) : He.AlD × (List He.FnW × Bool) := seeT 6 see s
def loose : List PySem.Str := [("InvalidBlock" : PySem.Str), ("InvalidRecord" : PySem.Str), ("InvalidSize" : PySem.Str), ("InvalidCount" : PySem.Str), ("PowerLoss" : PySem.Str), ("_wall" : PySem.Str), ("MAX_BLOCKS" : PySem.Str), ("MAX_SIGNS" : PySem.Str), ("is_between" : PySem.Str), ("is_text" : PySem.Str), ("has_only" : PySem.Str), ("Disk" : PySem.Str), ("_law_pool" : PySem.Str), ("_law_draw" : PySem.Str), ("_law_choose" : PySem.Str), ("_law_held" : PySem.Str), ("_law_after" : PySem.Str), ("_law_check_losses" : PySem.Str)]
theorem run (w : World) : HandSHeadRun.RunEq R (PySem.W.view R.prog [21]) hk ob 4000 loose w := by
  intro os
  kernel_rfl
end K01

end

set_option Elab.async false
set_option linter.all false
set_option maxRecDepth 100000
set_option maxHeartbeats 4000000

section
namespace My
open PySem PySem.Spec PyProof.Rows L2
section
variable {σ : L2.St} {H : Hp} {Q : VK} {nx bk ct : L2.St → Hp → Prop} {rt : VK} {t t1 t2 u : TS} {te ta tb tc : TE} {c d : TT} {g : TG} {x y v w : V}
theorem x_seq (h : t1 ⟨t2 ⟨nx, rt, bk, ct⟩, rt, bk, ct⟩ σ H) : tSeq t1 t2 ⟨nx, rt, bk, ct⟩ σ H := h
theorem x_next (h : nx σ H) : tNext ⟨nx, rt, bk, ct⟩ σ H := h
theorem x_ret (h : te σ H rt) : tRet te ⟨nx, rt, bk, ct⟩ σ H := h
theorem x_drop (h : te σ H fun _ H1 => nx σ H1) : tDrop te ⟨nx, rt, bk, ct⟩ σ H := h
theorem x_asg (h : te σ H fun x H1 => g x σ H1 nx) : tAsg te g ⟨nx, rt, bk, ct⟩ σ H := h
theorem x_par {i j : Nat} {ta : TA} (h : ta σ H fun vs H1 => ∃ v w, vs = [v, w] ∧ gName i v σ H1 fun σ1 H2 => gName j w σ1 H2 nx) : tPar i j ta ⟨nx, rt, bk, ct⟩ σ H := h
theorem x_exp2 {R : V → V → Prop} (h : R v w) : ∃ a b, [v, w] = [a, b] ∧ R a b := ⟨v, w, rfl, h⟩
theorem x_ifs (h : c σ H fun b H1 => if b = true then t ⟨nx, rt, bk, ct⟩ σ H1 else u ⟨nx, rt, bk, ct⟩ σ H1) : tIfS c t u ⟨nx, rt, bk, ct⟩ σ H := h
theorem x_c (h : Q v H) : tC v σ H Q := h
theorem x_op {r : R2} (h : ta σ H fun x H1 => tb σ H1 fun y H2 => r x y H2 Q) : tOp r ta tb σ H Q := h
theorem x_nil {Q : List V → Hp → Prop} (h : Q [] H) : tNil σ H Q := h
theorem x_cons {tr : TA} {Q : List V → Hp → Prop} (h : ta σ H fun x H1 => tr σ H1 fun xs H2 => Q (x :: xs) H2) : tCons ta tr σ H Q := h
theorem x_cb {r : List V → Hp → VK → Prop} {ta : TA} (h : ta σ H fun vs H1 => r vs H1 Q) : tCB r ta σ H Q := h
theorem x_call {sp : Sp} {dvs : List V} {E : XK} {ta : TA} (h : ta σ H fun vs H1 => sp (vs ++ dvs) H1 Q E) : tCall sp dvs E ta σ H Q := h
theorem x_test {Q : Bool → Hp → Prop} (h : te σ H fun x H' => ∃ k, x = .bl k ∧ Q k H') : tTest te σ H Q := h
theorem x_tB {Q : Bool → Hp → Prop} (h : te σ H fun x H' => ∃ k, x = .bl k ∧ Q k H') : tB te σ H Q := h
theorem x_exbl {b : Bool} {R : Bool → Prop} (h : R b) : ∃ k, V.bl b = .bl k ∧ R k := ⟨b, rfl, h⟩
theorem x_exI {i : Int} {R : Int → Prop} (h : R i) : ∃ k, V.int i = .int k ∧ R k := ⟨i, rfl, h⟩
theorem x_and {Q : Bool → Hp → Prop} (h : c σ H fun b H1 => if b = true then d σ H1 Q else Q false H1) : tAnd c d σ H Q := h
theorem x_or {Q : Bool → Hp → Prop} (h : c σ H fun b H1 => if b = true then Q true H1 else d σ H1 Q) : tOr c d σ H Q := h
theorem x_not {Q : Bool → Hp → Prop} (h : c σ H fun b H1 => Q (!b) H1) : tNot c σ H Q := h
theorem x_yes {Q : Bool → Hp → Prop} (h : Q true H) : tYes σ H Q := h
theorem x_andv (h : ta σ H fun x H1 => ∃ c, x = .bl c ∧ if c = true then tb σ H1 Q else Q (.bl false) H1) : tAndV ta tb σ H Q := h
theorem x_notv (h : ta σ H fun x H1 => ∃ c, x = .bl c ∧ Q (.bl (!c)) H1) : tNotV ta σ H Q := h
theorem x_chain {r r' : R2} (h : ta σ H fun x H1 => tb σ H1 fun y H2 => r x y H2 fun z H3 => ∃ k, z = .bl k ∧ (if k = true then tc σ H3 fun w' H4 => r' y w' H4 Q else Q (.bl false) H3)) : tChain r r' ta tb tc σ H Q := h
theorem x_tfor {wi : TI} {tb : TS} (h : wi σ H fun J H1 => ∃ W : Nat → Nat → L2.St → Hp → Prop, (∃ m, W 0 m σ H1) ∧ ∀ i m σ H, W i m σ H →
  (J.stop i H ∧ nx σ H) ∨ (J.go i H ∧ ∃ N : L2.St → Hp → Prop, (∀ σ' H', N σ' H' → ∃ m', m' < m ∧ W (i + 1) m' σ' H') ∧ ∀ x H', J.yld i H x H' → g x σ H' fun σ2 H2 => tb ⟨N, rt, nx, N⟩ σ2 H2)) : tFor wi g tb ⟨nx, rt, bk, ct⟩ σ H := h
theorem x_ilist {K : PySem.W.Frag} {R} (h : te σ H fun x H1 => ∃ a, x = .ref a ∧ (∃ xs, SqL K H1 a xs) ∧ R (Itl K a) H1) : iList K te σ H R := h
theorem x_rng1 {ta : TA} {R} (h : ta σ H fun vs H1 => ∃ j : Int, vs = [.int j] ∧ -(2 ^ 62) ≤ j ∧ j < 2 ^ 62 ∧ R (Itr 0 j.toNat) H1) : iRng1 ta σ H R := h
theorem x_ii0 {i j : Int} {g : Int → Int → V} (h : Q (g i j) H) : rI0 g (.int i) (.int j) H Q := ⟨i, j, rfl, rfl, h⟩
theorem x_iT {A B : Prop} (h : A) : if true = true then A else B := iteT h
theorem x_iF {A B : Prop} (h : B) : if false = true then A else B := iteF h
theorem x_bm {K : PySem.W.Frag} {T : String} {r : V → List V → Hp → VK → Prop} {t : TA} (h : te σ H fun x H1 => tyV K T x H1 ∧ t σ H1 fun xs H2 => r x xs H2 Q) : tBM K T r te t σ H Q := h
/-- a rule with a side condition -/
theorem x_i {C : Int → Int → Prop} {i j : Int} {g : Int → Int → V} (hc : C i j) (h : Q (g i j) H) : rI C g (.int i) (.int j) H Q := ⟨i, j, rfl, rfl, hc, h⟩
theorem x_dec {p : Prop} [Decidable p] {A B : Prop} (h1 : p → A) (h2 : ¬ p → B) : if decide p = true then A else B := by
  by_cases h : p
  · rw [decide_eq_true h]; exact iteT (h1 h)
  · rw [decide_eq_false h]; exact iteF (h2 h)
theorem x_eq (h : scal x y = true) (k : Q (.bl (decide (x = y))) H) : rEq x y H Q := ⟨h, k⟩
theorem x_ne (h : scal x y = true) (k : Q (.bl (!decide (x = y))) H) : rNe x y H Q := ⟨h, k⟩
theorem x_lst {ta : TA} (h : ta σ H fun xs H1 => xs.length ≤ sizeLine ∧ ∀ p, H1 p = none → Q (.ref p) (upd H1 p (.lst xs))) : tLst ta σ H Q := h
theorem x_tup {ta : TA} (h : ta σ H fun xs H1 => xs.length ≤ sizeLine ∧ ∀ p, H1 p = none → Q (.ref p) (upd H1 p (.tup xs))) : tTup ta σ H Q := h
theorem x_ixL {K : PySem.W.Frag} {p : Addr} {xs : List V} {i : Int} (h : SqL K H p xs) (ha : atI xs i = some v) (k : Q v H) : rIxL K (.ref p) (.int i) H Q := ⟨p, xs, i, v, rfl, rfl, h, ha, k⟩
theorem x_ixT {K : PySem.W.Frag} {p : Addr} {xs : List V} {i : Int} (h : SqT K H p xs) (ha : atI xs i = some v) (k : Q v H) : rIxT K (.ref p) (.int i) H Q := ⟨p, xs, i, v, rfl, rfl, h, ha, k⟩
theorem x_setL {p : Addr} {xs : List V} {i : Int} {j : Nat} {Q : Hp → Prop} (h : H p = some (.lst xs)) (hi : ixN xs.length i = some j) (k : Q (upd H p (.lst (xs.set j v)))) : rSetL (.ref p) (.int i) v H Q := ⟨p, xs, i, j, rfl, rfl, h, hi, k⟩
theorem x_mem1 {n : Nat} {A : Prop} (h : n ≤ sizeLine) (k : A) : n ≤ sizeLine ∧ A := ⟨h, k⟩
theorem inV_int (i : Int) : ∀ ks : List Int, inV (.int i) (ks.map V.int) = decide (i ∈ ks)
  | [] => by simp [inV]
  | k :: r => by
    have ih := inV_int i r
    unfold inV at ih ⊢
    rw [List.map_cons, List.any_cons, ih]
    have : eqV (V.int k) (V.int i) = decide (k = i) := rfl
    rw [this, Bool.eq_iff_iff]
    simp only [Bool.or_eq_true, decide_eq_true_eq, List.mem_cons]
    exact ⟨fun q => q.imp Eq.symm id, fun q => q.imp Eq.symm id⟩
theorem flat_ints (ks : List Int) : (ks.map V.int).all flatV = true := by
  rw [List.all_eq_true]
  intro x hx
  obtain ⟨k, _, rfl⟩ := List.mem_map.mp hx
  rfl
theorem x_inI {K : PySem.W.Frag} {p : Addr} {i : Int} {ks : List Int} (s : SqL K H p (ks.map V.int)) (h : Q (.bl (decide (i ∈ ks))) H) : rIn K false (.int i) (.ref p) H Q :=
  ⟨p, _, rfl, .inl s, rfl, flat_ints ks, by rw [inV_int]; exact h⟩
theorem x_start {t : TS} {D : Ends} {σ σ' : L2.St} {H : Hp} (e : σ' = σ) (h : t D σ H) : t D σ' H := e ▸ h
theorem x_gsub {to ti : TE} {ts : TSet} {Q : L2.St → Hp → Prop} (h : to σ H fun o H1 => ti σ H1 fun i H2 => ts o i v H2 fun H3 => Q σ H3) : gSub to ti ts v σ H Q := h
theorem x_int1 {i : Int} {R : Prop} {Q : Int → Prop} (h : Q i) : (∃ j, [V.int i] = [.int j] ∧ Q j) ∨ R := .inl ⟨i, rfl, h⟩
theorem x_len {K : PySem.W.Frag} {a : Addr} {ys : List V} {Q : List V → Prop} (s : SqL K H a ys) (h : Q ys) : ∃ (p : Addr) (ys : List V), [V.ref a] = [.ref p] ∧ (SqL K H p ys ∨ SqT K H p ys) ∧ Q ys := ⟨a, ys, rfl, .inl s, h⟩
theorem x_two {i j : Int} {Q : Int → Int → Prop} (h : Q i j) : ∃ a b : Int, [V.int i, V.int j] = [.int a, .int b] ∧ Q a b := ⟨i, j, rfl, h⟩
theorem x_append {l : Addr} {xs : List V} (s : H l = some (.lst xs)) (n : xs.length < sizeLine) (h : Q .non (upd H l (.lst (xs ++ [y])))) : rAppend (.ref l) [y] H Q := ⟨l, xs, y, rfl, rfl, s, n, h⟩
theorem x_tyL {K : PySem.W.Frag} {a : Addr} {xs : List V} {R : Prop} (s : H a = some (.lst xs)) (h : R) : tyV K "list" (.ref a) H ∧ R := ⟨.inl ⟨rfl, _, SqL.of s⟩, h⟩
theorem x_ilistE {K : PySem.W.Frag} {a : Addr} {xs : List V} {R : Addr → Prop} (s : SqL K H a xs) (h : R a) : ∃ b, V.ref a = .ref b ∧ (∃ xs, SqL K H b xs) ∧ R b := ⟨a, rfl, ⟨xs, s⟩, h⟩
theorem x_rng1E {j : Int} {R : Int → Prop} (h1 : -(2 ^ 62) ≤ j) (h2 : j < 2 ^ 62) (h : R j) : ∃ k : Int, [V.int j] = [.int k] ∧ -(2 ^ 62) ≤ k ∧ k < 2 ^ 62 ∧ R k := ⟨j, rfl, h1, h2, h⟩
theorem x_ne_d {x y : V} {k : Bool} (h : scal x y = true) (e : (!decide (x = y)) = k) (q : Q (.bl k) H) : rNe x y H Q := ⟨h, e ▸ q⟩
end

theorem x_v0 {v : V} {r : L2.St} {H : Hp} {Q : VK} (h : Q v H) : tVar 0 (some v :: r) H Q := ⟨v, rfl, h⟩
theorem x_v1 {a0 : Option V} {v : V} {r : L2.St} {H : Hp} {Q : VK} (h : Q v H) : tVar 1 (a0 :: some v :: r) H Q := ⟨v, rfl, h⟩
theorem x_g1 {a0 : Option V} {v : V} {c : Option V} {r : L2.St} {H : Hp} {Q : L2.St → Hp → Prop} (h : Q (a0 :: some v :: r) H) : gName 1 v (a0 :: c :: r) H Q := h
theorem x_v2 {a0 a1 : Option V} {v : V} {r : L2.St} {H : Hp} {Q : VK} (h : Q v H) : tVar 2 (a0 :: a1 :: some v :: r) H Q := ⟨v, rfl, h⟩
theorem x_g2 {a0 a1 : Option V} {v : V} {c : Option V} {r : L2.St} {H : Hp} {Q : L2.St → Hp → Prop} (h : Q (a0 :: a1 :: some v :: r) H) : gName 2 v (a0 :: a1 :: c :: r) H Q := h
theorem x_v3 {a0 a1 a2 : Option V} {v : V} {r : L2.St} {H : Hp} {Q : VK} (h : Q v H) : tVar 3 (a0 :: a1 :: a2 :: some v :: r) H Q := ⟨v, rfl, h⟩
theorem x_g3 {a0 a1 a2 : Option V} {v : V} {c : Option V} {r : L2.St} {H : Hp} {Q : L2.St → Hp → Prop} (h : Q (a0 :: a1 :: a2 :: some v :: r) H) : gName 3 v (a0 :: a1 :: a2 :: c :: r) H Q := h
theorem x_v4 {a0 a1 a2 a3 : Option V} {v : V} {r : L2.St} {H : Hp} {Q : VK} (h : Q v H) : tVar 4 (a0 :: a1 :: a2 :: a3 :: some v :: r) H Q := ⟨v, rfl, h⟩
theorem x_g4 {a0 a1 a2 a3 : Option V} {v : V} {c : Option V} {r : L2.St} {H : Hp} {Q : L2.St → Hp → Prop} (h : Q (a0 :: a1 :: a2 :: a3 :: some v :: r) H) : gName 4 v (a0 :: a1 :: a2 :: a3 :: c :: r) H Q := h
theorem x_v5 {a0 a1 a2 a3 a4 : Option V} {v : V} {r : L2.St} {H : Hp} {Q : VK} (h : Q v H) : tVar 5 (a0 :: a1 :: a2 :: a3 :: a4 :: some v :: r) H Q := ⟨v, rfl, h⟩
theorem x_g5 {a0 a1 a2 a3 a4 : Option V} {v : V} {c : Option V} {r : L2.St} {H : Hp} {Q : L2.St → Hp → Prop} (h : Q (a0 :: a1 :: a2 :: a3 :: a4 :: some v :: r) H) : gName 5 v (a0 :: a1 :: a2 :: a3 :: a4 :: c :: r) H Q := h
theorem x_v6 {a0 a1 a2 a3 a4 a5 : Option V} {v : V} {r : L2.St} {H : Hp} {Q : VK} (h : Q v H) : tVar 6 (a0 :: a1 :: a2 :: a3 :: a4 :: a5 :: some v :: r) H Q := ⟨v, rfl, h⟩
theorem x_g6 {a0 a1 a2 a3 a4 a5 : Option V} {v : V} {c : Option V} {r : L2.St} {H : Hp} {Q : L2.St → Hp → Prop} (h : Q (a0 :: a1 :: a2 :: a3 :: a4 :: a5 :: some v :: r) H) : gName 6 v (a0 :: a1 :: a2 :: a3 :: a4 :: a5 :: c :: r) H Q := h
theorem x_v7 {a0 a1 a2 a3 a4 a5 a6 : Option V} {v : V} {r : L2.St} {H : Hp} {Q : VK} (h : Q v H) : tVar 7 (a0 :: a1 :: a2 :: a3 :: a4 :: a5 :: a6 :: some v :: r) H Q := ⟨v, rfl, h⟩
theorem x_g7 {a0 a1 a2 a3 a4 a5 a6 : Option V} {v : V} {c : Option V} {r : L2.St} {H : Hp} {Q : L2.St → Hp → Prop} (h : Q (a0 :: a1 :: a2 :: a3 :: a4 :: a5 :: a6 :: some v :: r) H) : gName 7 v (a0 :: a1 :: a2 :: a3 :: a4 :: a5 :: a6 :: c :: r) H Q := h
theorem x_v8 {a0 a1 a2 a3 a4 a5 a6 a7 : Option V} {v : V} {r : L2.St} {H : Hp} {Q : VK} (h : Q v H) : tVar 8 (a0 :: a1 :: a2 :: a3 :: a4 :: a5 :: a6 :: a7 :: some v :: r) H Q := ⟨v, rfl, h⟩
theorem x_g8 {a0 a1 a2 a3 a4 a5 a6 a7 : Option V} {v : V} {c : Option V} {r : L2.St} {H : Hp} {Q : L2.St → Hp → Prop} (h : Q (a0 :: a1 :: a2 :: a3 :: a4 :: a5 :: a6 :: a7 :: some v :: r) H) : gName 8 v (a0 :: a1 :: a2 :: a3 :: a4 :: a5 :: a6 :: a7 :: c :: r) H Q := h
theorem x_v9 {a0 a1 a2 a3 a4 a5 a6 a7 a8 : Option V} {v : V} {r : L2.St} {H : Hp} {Q : VK} (h : Q v H) : tVar 9 (a0 :: a1 :: a2 :: a3 :: a4 :: a5 :: a6 :: a7 :: a8 :: some v :: r) H Q := ⟨v, rfl, h⟩
theorem x_g9 {a0 a1 a2 a3 a4 a5 a6 a7 a8 : Option V} {v : V} {c : Option V} {r : L2.St} {H : Hp} {Q : L2.St → Hp → Prop} (h : Q (a0 :: a1 :: a2 :: a3 :: a4 :: a5 :: a6 :: a7 :: a8 :: some v :: r) H) : gName 9 v (a0 :: a1 :: a2 :: a3 :: a4 :: a5 :: a6 :: a7 :: a8 :: c :: r) H Q := h
theorem x_v10 {a0 a1 a2 a3 a4 a5 a6 a7 a8 a9 : Option V} {v : V} {r : L2.St} {H : Hp} {Q : VK} (h : Q v H) : tVar 10 (a0 :: a1 :: a2 :: a3 :: a4 :: a5 :: a6 :: a7 :: a8 :: a9 :: some v :: r) H Q := ⟨v, rfl, h⟩
theorem x_g10 {a0 a1 a2 a3 a4 a5 a6 a7 a8 a9 : Option V} {v : V} {c : Option V} {r : L2.St} {H : Hp} {Q : L2.St → Hp → Prop} (h : Q (a0 :: a1 :: a2 :: a3 :: a4 :: a5 :: a6 :: a7 :: a8 :: a9 :: some v :: r) H) : gName 10 v (a0 :: a1 :: a2 :: a3 :: a4 :: a5 :: a6 :: a7 :: a8 :: a9 :: c :: r) H Q := h
theorem x_v11 {a0 a1 a2 a3 a4 a5 a6 a7 a8 a9 a10 : Option V} {v : V} {r : L2.St} {H : Hp} {Q : VK} (h : Q v H) : tVar 11 (a0 :: a1 :: a2 :: a3 :: a4 :: a5 :: a6 :: a7 :: a8 :: a9 :: a10 :: some v :: r) H Q := ⟨v, rfl, h⟩
theorem x_g11 {a0 a1 a2 a3 a4 a5 a6 a7 a8 a9 a10 : Option V} {v : V} {c : Option V} {r : L2.St} {H : Hp} {Q : L2.St → Hp → Prop} (h : Q (a0 :: a1 :: a2 :: a3 :: a4 :: a5 :: a6 :: a7 :: a8 :: a9 :: a10 :: some v :: r) H) : gName 11 v (a0 :: a1 :: a2 :: a3 :: a4 :: a5 :: a6 :: a7 :: a8 :: a9 :: a10 :: c :: r) H Q := h
theorem x_v12 {a0 a1 a2 a3 a4 a5 a6 a7 a8 a9 a10 a11 : Option V} {v : V} {r : L2.St} {H : Hp} {Q : VK} (h : Q v H) : tVar 12 (a0 :: a1 :: a2 :: a3 :: a4 :: a5 :: a6 :: a7 :: a8 :: a9 :: a10 :: a11 :: some v :: r) H Q := ⟨v, rfl, h⟩
theorem x_g12 {a0 a1 a2 a3 a4 a5 a6 a7 a8 a9 a10 a11 : Option V} {v : V} {c : Option V} {r : L2.St} {H : Hp} {Q : L2.St → Hp → Prop} (h : Q (a0 :: a1 :: a2 :: a3 :: a4 :: a5 :: a6 :: a7 :: a8 :: a9 :: a10 :: a11 :: some v :: r) H) : gName 12 v (a0 :: a1 :: a2 :: a3 :: a4 :: a5 :: a6 :: a7 :: a8 :: a9 :: a10 :: a11 :: c :: r) H Q := h
theorem x_v13 {a0 a1 a2 a3 a4 a5 a6 a7 a8 a9 a10 a11 a12 : Option V} {v : V} {r : L2.St} {H : Hp} {Q : VK} (h : Q v H) : tVar 13 (a0 :: a1 :: a2 :: a3 :: a4 :: a5 :: a6 :: a7 :: a8 :: a9 :: a10 :: a11 :: a12 :: some v :: r) H Q := ⟨v, rfl, h⟩
theorem x_g13 {a0 a1 a2 a3 a4 a5 a6 a7 a8 a9 a10 a11 a12 : Option V} {v : V} {c : Option V} {r : L2.St} {H : Hp} {Q : L2.St → Hp → Prop} (h : Q (a0 :: a1 :: a2 :: a3 :: a4 :: a5 :: a6 :: a7 :: a8 :: a9 :: a10 :: a11 :: a12 :: some v :: r) H) : gName 13 v (a0 :: a1 :: a2 :: a3 :: a4 :: a5 :: a6 :: a7 :: a8 :: a9 :: a10 :: a11 :: a12 :: c :: r) H Q := h

/-! ### loops over lists, by what is behind and ahead -/
section
variable {K : PySem.W.Frag} {a : Addr} {α : Type} {f : α → V} {ys : List α} {g : TG} {tb : TS} {σ : L2.St} {H : Hp} {nx : L2.St → Hp → Prop} {rt : VK}
theorem getElem?_split {ys : List α} {i : Nat} {x : α} (h : ys[i]? = some x) : ys = ys.take i ++ x :: ys.drop (i + 1) := by
  obtain ⟨hi, e⟩ := List.getElem?_eq_some_iff.mp h
  subst e
  rw [List.getElem_cons_drop, List.take_append_drop]
theorem take_snoc {ys : List α} {i : Nat} {x : α} (h : ys[i]? = some x) : ys.take (i + 1) = ys.take i ++ [x] := by
  rw [List.take_add_one, h]; rfl
end
/-! ### heaps -/
theorem Same.new {H0 H : Hp} {p : Addr} {o : HO} (s : Same H0 H) (h : H p = none) : Same H0 (upd H p o) := fun b u e => by
  rw [upd_ne (ne_of_none (s b u e) h)]; exact s b u e
theorem Same.mut {H0 H : Hp} {p : Addr} {o : HO} (s : Same H0 H) (h : H0 p = none) : Same H0 (upd H p o) := fun b u e => by
  rw [upd_ne (ne_of_none e h)]; exact s b u e
/-! ### a dict with int keys -/
/-! ### lists of ints compared -/
theorem lay_ints : ∀ ns : List Int, PyData.canLayAll0 (ns.map PyData.int) = true
  | [] => by simp [PyData.canLayAll0]
  | n :: r => by simp [PyData.canLayAll0, PyData.canLay0, lay_ints r]
theorem depth_ints : ∀ ns : List Int, PyData.depthAll (ns.map PyData.int) = 0
  | [] => by simp [PyData.depthAll]
  | n :: r => by simp [PyData.depthAll, PyData.depth, depth_ints r]
theorem shaped_ints (ns : List Int) : SeqAt.shaped (.list (ns.map PyData.int)) = true := by
  unfold SeqAt.shaped
  simp [PyData.canLay0, lay_ints, PyData.depth, depth_ints]
theorem dp_ints {K : PySem.W.Frag} {H : Hp} : ∀ ns : List Int, DpAll K H (ns.map V.int) (ns.map PyData.int)
  | [] => .nil
  | n :: r => .cons (.int n) (dp_ints r)
theorem eqv_ints : ∀ ns ms : List Int, PyData.eqvAll (ns.map PyData.int) (ms.map PyData.int) = decide (ns = ms)
  | [], [] => by simp [PyData.eqvAll]
  | [], _ :: _ => by simp [PyData.eqvAll]
  | _ :: _, [] => by simp [PyData.eqvAll]
  | n :: r, m :: q => by
    rw [List.map_cons, List.map_cons, PyData.eqvAll, eqv_ints r q, PyData.eqv, Bool.eq_iff_iff]
    simp
theorem x_neI {K : PySem.W.Frag} {H : Hp} {Q : VK} {a b : Addr} {ns ms : List Int} (s : SqL K H a (ns.map V.int)) (t : SqL K H b (ms.map V.int)) (h : Q (.bl (!decide (ns = ms))) H) : rNeD K (.ref a) (.ref b) H Q :=
  ⟨_, _, .lst s (dp_ints ns), .lst t (dp_ints ms), shaped_ints ns, shaped_ints ms, by rw [PyData.eqv, eqv_ints]; exact h⟩
/-! ### the draws of a law -/
/-- the pool at p: a cell, a seed -/
def PoolAt (H : Hp) (p : Addr) : Prop := ∃ c s : Int, H p = some (.lst [.int c, .int s]) ∧ 0 ≤ s ∧ s < 2147483647
/-- only what stands at p may have changed -/
def But (p : Addr) (H H' : Hp) : Prop := ∀ b, b ≠ p → H' b = H b
theorem But.upd {p : Addr} {H : Hp} {o : HO} : But p H (upd H p o) := fun _ h => upd_ne h
theorem But.at {p b : Addr} {H H' : Hp} {o : Option HO} (k : But p H H') (h : H b = o) (n : b ≠ p) : H' b = o := (k b n).trans h
theorem But.same {p : Addr} {H0 H H' : Hp} (k : But p H H') (s : Same H0 H) (n : H0 p = none) : Same H0 H' := fun b o e => (k b (ne_of_none e n)).trans (s b o e)
def sp_draw : Sp := fun vs H Q _ => ∃ (p : Addr) (n c s : Int), vs = [.ref p, .int n] ∧ 0 < n ∧ n < 1073741824 ∧ H p = some (.lst [.int c, .int s]) ∧ 0 ≤ s ∧ s < 2147483647 ∧
  ∀ d c' s' : Int, 0 ≤ d → d < n → 0 ≤ s' → s' < 2147483647 → Q (.int d) (upd H p (.lst [.int c', .int s']))
theorem x_draw {H : Hp} {Q : VK} {E : XK} {p : Addr} {n : Int} (P : PoolAt H p) (n0 : 0 < n) (n1 : n < 1073741824) (h : ∀ (d : Int) (H' : Hp), 0 ≤ d → d < n → PoolAt H' p → But p H H' → Q (.int d) H') : sp_draw ([V.ref p, .int n] ++ []) H Q E := by
  obtain ⟨c, s, e, s0, s1⟩ := P
  exact ⟨p, n, c, s, rfl, n0, n1, e, s0, s1, fun d c' s' d0 d1 z0 z1 => h d _ d0 d1 ⟨c', s', upd_same, z0, z1⟩ But.upd⟩
def sp_pool (K : PySem.W.Frag) : Sp := fun vs H Q _ => ∃ (a : Addr) (ns : List Int) (k : Int), vs = [.ref a, .int k] ∧ SqL K H a (ns.map V.int) ∧ 0 ≤ k ∧ k < 1000 ∧
  ∀ (p : Addr) (c s : Int), H p = none → 0 ≤ s → s < 2147483647 → Q (.ref p) (upd H p (.lst [.int c, .int s]))
theorem x_pool {K : PySem.W.Frag} {H : Hp} {Q : VK} {E : XK} {a : Addr} {k : Int} {ns : List Int} (S : SqL K H a (ns.map V.int)) (k0 : 0 ≤ k) (k1 : k < 1000) (h : ∀ (p : Addr) (H' : Hp), H p = none → PoolAt H' p → But p H H' → Q (.ref p) H') : sp_pool K ([V.ref a, .int k] ++ []) H Q E :=
  ⟨a, ns, k, rfl, S, k0, k1, fun p c s hp s0 s1 => h p _ hp ⟨c, s, upd_same, s0, s1⟩ But.upd⟩
theorem PoolAt.new {p q : Addr} {H : Hp} {o : HO} (h : PoolAt H p) (n : H q = none) : PoolAt (L2.upd H q o) p := by
  obtain ⟨c, s, e, z⟩ := h
  exact ⟨c, s, by rw [upd_ne (ne_of_none e n)]; exact e, z⟩
theorem PoolAt.mut {p q : Addr} {H : Hp} {o : HO} (h : PoolAt H p) (n : p ≠ q) : PoolAt (L2.upd H q o) p := by
  obtain ⟨c, s, e, z⟩ := h
  exact ⟨c, s, by rw [upd_ne n]; exact e, z⟩
theorem PoolAt.sees {p : Addr} {H H' : Hp} (h : PoolAt H p) (s : Same H H') : PoolAt H' p := by
  obtain ⟨c, z, e, y⟩ := h
  exact ⟨c, z, s _ _ e, y⟩
theorem PoolAt.ne {p q : Addr} {H : Hp} (h : PoolAt H p) (n : H q = none) : p ≠ q := by
  obtain ⟨c, s, e, z⟩ := h
  exact ne_of_none e n
/-! ### steps that call for these -/
theorem x_lc {wi : TI} {g : TG} {tt : TT} {te : TE} {vs : List Nat} {σ : L2.St} {H : Hp} {Q : VK} (h : wi σ H fun J H1 => ∀ D, H1 D = none → ∃ W : Nat → Nat → Hp → Prop, (∃ m, W 0 m (upd H1 D (.lst []))) ∧ ∀ i m H, W i m H →
  (J.stop i H ∧ Q (.ref D) H) ∨ (J.go i H ∧ ∃ Nx : Hp → Prop, (∀ H', Nx H' → ∃ m', m' < m ∧ W (i + 1) m' H') ∧ ∀ x H', J.yld i H x H' → g x (wipe σ vs) H' fun σ2 H2 => wipe σ2 vs = wipe σ vs ∧ tt σ2 H2 fun b H3 =>
    if b = true then te σ2 H3 fun y H4 => ∃ acc, H4 D = some (.lst acc) ∧ acc.length < sizeLine ∧ Nx (upd H4 D (.lst (acc ++ [y]))) else Nx H3)) : tLc wi g tt te vs σ H Q := h
theorem x_ienum {K : PySem.W.Frag} {ta : TA} {σ : L2.St} {H : Hp} {R} (h : ta σ H fun vs H1 => ∃ a xs, vs = [.ref a] ∧ SqL K H1 a xs ∧ R (Ite K a) H1) : iEnum K ta σ H R := h
theorem x_ienumE {K : PySem.W.Frag} {a : Addr} {xs : List V} {H : Hp} {R : Addr → Prop} (s : SqL K H a xs) (h : R a) : ∃ (b : Addr) (xs : List V), [V.ref a] = [.ref b] ∧ SqL K H b xs ∧ R b := ⟨a, xs, rfl, s, h⟩
theorem x_gtup {K : PySem.W.Frag} {n : Nat} {t : TGs} {p : Addr} {xs : List V} {σ : L2.St} {H : Hp} {Q : L2.St → Hp → Prop} (s : SqT K H p xs) (l : xs.length = n) (h : t xs σ H Q) : gTup K n t (.ref p) σ H Q := ⟨p, xs, rfl, s, l, h⟩
theorem x_gcons {t : TG} {u : TGs} {v : V} {r : List V} {σ : L2.St} {H : Hp} {Q : L2.St → Hp → Prop} (h : t v σ H fun σ' H' => u r σ' H' Q) : gCons t u (v :: r) σ H Q := ⟨v, r, rfl, h⟩
theorem x_gnil {σ : L2.St} {H : Hp} {Q : L2.St → Hp → Prop} (h : Q σ H) : gNil [] σ H Q := ⟨rfl, h⟩

/-! ### a def of the module, as its callers need it -/
structure Cl (P : Program) (w : World) (K : PySem.W.Frag) (mg : Str → Option Value) (base : Heap) (x : Str) (ps : List Str) (k : Nat) (sp : Sp) : Prop where
  ex : ∃ fd, FnOk P w K mg base CX0 k (He.ga K x) fd ps sp ∧ Binds K fd ps []
  kp : PySem.W.keepIn K (.ref (He.ga K x)) = true
  g : mg x = some (.ref (He.ga K x))
theorem pe_cl {X : Cx} {k : Nat} {ps : List Str} {sp : Sp} {x : Str} {p pos : Pos} {e : Expr} {es : List Expr} {t : TA} (C : Cl X.prog X.w X.K X.mg X.base x ps k sp) (hr : Room k X.A) (hg : Gl X x)
    (ha : PA X (e :: es) t) (hdb : (x == ("__debug__" : Str)) = false := by decide) (he : starEach (e :: es) X.env = (false, eval e X.env) :: starEach es X.env := by rfl) (hpl : (backTo pos (starEach es X.env)).any (·.1) = false := by rfl) :
    PE X (.Call (.Name x p) (e :: es) [] pos) (tCall sp [] E0 t) := by
  obtain ⟨fd, F, b⟩ := C.ex
  exact pe_call F hr hg C.g C.kp b .nil pass0 ha hdb he hpl
end My

end

section
/-! ### own special methods -/
namespace My
open PySem PySem.Spec PyProof.Rows L2
theorem rr (a : Addr) : RelV (.ref a) (.ref a) := rfl
/-- a special method m of the class at C: the def at f, with its promise -/
structure Spc (P : Program) (w : World) (K : PySem.W.Frag) (mg : Str → Option Value) (base : Heap) (CX : CXT) (C : Addr) (m : Str) (ps : List Str) (k : Nat) (sp : Sp) : Prop where
  ex : ∃ f fd, FnOk P w K mg base CX k f fd ps sp ∧ Binds K fd ps [] ∧ PySem.W.findIn K (.ref C) m = some (some (.ref f)) ∧ PySem.W.isFn K (.ref f) = true ∧ PySem.W.fnIn K f = true
section
variable {X : Cx} {CX : CXT} {k : Nat} {C a dx f : Addr} {fs : List (Str × V)} {fd : FuncData} {ps : List Str} {sp : Sp} {E : XK} {pins : List (Addr × Obj)} {σ : L2.St} {H : Hp} {s : Shared}
theorem ins_at (I : Inv X pins σ H s) (e : H a = some (.ins C dx fs)) : ∃ od, PySem.W.InstAt s.heap a (PySem.W.instObj C dx) C (some od) := by
  obtain ⟨mA, O, _, _, _, _⟩ := ins_get I.hok e
  obtain ⟨od, J, _⟩ := O.look
  exact ⟨od, J⟩
/-- the callee at some surroundings that have the same frames -/
theorem run_at {A : Around} {Q : VK} {us : List Value} {vs : List V} (F : FnOk X.prog X.w X.K X.mg X.base CX k f fd ps sp) (hr : Room k A) (e0 : Env0 X.prog X.w X.K X.mg X.base A X.stack s H) (hb : Binds X.K fd ps []) (hx : Passes CX X E)
    (I : Inv X pins σ H s) (r : Vals vs us) (h : sp vs H Q E) : wpAny (model X.prog X.w) A (call (.ref f) us) (EP X pins σ Q) X.xe s := by
  have hl : (us ++ []).length = ps.length := by rw [List.append_nil, ← r.length]; exact F.len _ _ _ _ h
  have hbb := hb s us I.kIn hl
  rw [List.append_nil] at hbb
  refine wpAny_call (codeAny_mono (F.run A X.stack s H ⟨us, []⟩ us vs Q E hr e0 hbb r h) fun r s' hq => ?_)
  cases r with
  | error e => exact hx pins σ H s e s' I hq
  | ok fl =>
    cases fl with
    | ret u => exact I.after hq
    | next => exact False.elim hq
    | brk => exact False.elim hq
    | cont => exact False.elim hq
def rLenO (C : Addr) (sp : Sp) (E : XK) : List V → Hp → VK → Prop := fun xs H Q => ∃ a dx fs, xs = [.ref a] ∧ H a = some (.ins C dx fs) ∧ sp [.ref a] H (fun v H' => ∃ n : Int, v = .int n ∧ 0 ≤ n ∧ n < 2 ^ 63 ∧ Q (.int n) H') E
theorem call_lenO (S : Spc X.prog X.w X.K X.mg X.base CX C "__len__" ps k sp) (hr : Room (k + 1) X.A) (hx : Passes CX X E) : CallR X (.builtin "len") (rLenO C sp E) := by
  intro pins s σ H xs us Q I r h
  obtain ⟨a, dx, fs, rfl, ea, q⟩ := h
  obtain ⟨f, fd, F, hb, hs, hf, _⟩ := S.ex
  cases r with
  | cons r1 r2 =>
    cases r2
    cases r1
    obtain ⟨od, J⟩ := ins_at I ea
    obtain ⟨m, fr⟩ := I.fr
    refine PySem.W.len_K fr I.ok.mod.kin J hs hf (thn (run_at F hr.in1 I.env0.in1 hb hx I (.cons (rr _) .nil) q) fun u s' ⟨v, H', I', rv, n, ev, n0, n1, q'⟩ => ?_)
    subst ev
    obtain ⟨t, rfl⟩ := rv
    exact ⟨⟨n0, n1⟩, .int n, H', I'.tok _, ⟨_, rfl⟩, q'⟩
def rIxO (C : Addr) (sp : Sp) (E : XK) : R2 := fun x y H Q => ∃ a dx fs, x = .ref a ∧ H a = some (.ins C dx fs) ∧ sp [.ref a, y] H Q E
theorem pe_ixO {ea eb : Expr} {ta tb : TE} {pos : Pos} (S : Spc X.prog X.w X.K X.mg X.base CX C "__getitem__" ps k sp) (hr : Room (k + 1) X.A) (hx : Passes CX X E) (ha : PE X ea ta) (hb : PE X eb tb)
    (hsl : ∀ (a : Addr) (i : Value), subscripted eb true (.ref a) i = runValue (.builtin "lifetime.subscript" ⟨[.ref a, i], []⟩) := by intro _ _; with_unfolding_all rfl) : PE X (.Subscript ea eb pos) (tOp (rIxO C sp E) ta tb) := by
  refine ⟨fun pins s σ H Q I h => ?_⟩
  refine Subscript_ (binT ha hb I h fun v u s2 x y H2 I2 rx ry q => ?_)
  obtain ⟨a, dx, fs, rfl, eq, q⟩ := q
  obtain ⟨f, fd, F, hb, hs, hf, hfn⟩ := S.ex
  cases rx
  obtain ⟨od, J⟩ := ins_at I2 eq
  obtain ⟨m, fr⟩ := I2.fr
  exact PySem.W.sub_K fr I2.ok.mod.kin J hs hfn hf (run_at F hr.in1 I2.env0.in1 hb hx I2 (.cons (rr _) (.cons ry .nil)) q) (hsl a u)
/-- == by an own __eq__ that hands back a bool -/
def rEqO (C : Addr) (sp : Sp) (E : XK) (ty : V → Hp → Prop) : R2 := fun x y H Q => ∃ a dx fs, x = .ref a ∧ H a = some (.ins C dx fs) ∧ ty y H ∧ sp [.ref a, y] H (fun v H' => ∃ b, v = .bl b ∧ Q (.bl b) H') E
theorem op_eqO {ty : V → Hp → Prop} (S : Spc X.prog X.w X.K X.mg X.base CX C "__eq__" ps k sp) (hr : Room k X.A) (hx : Passes CX X E)
    (hty : ∀ (pins : List (Addr × Obj)) (s : Shared) (σ : L2.St) (H : Hp) (y : V) (u : Value), Inv X pins σ H s → RelV y u → ty y H → ∃ tb, PySem.W.Looks (model X.prog X.w) s.heap (typeOf u) tb ∧ PySem.W.notFirst X.K C tb = true) :
    OpR X (compareOp .Eq) (rEqO C sp E ty) := by
  intro pins s σ H x y v u Q I rx ry h
  obtain ⟨a, dx, fs, rfl, ea, ht, q⟩ := h
  obtain ⟨f, fd, F, hb, hs, hf, _⟩ := S.ex
  cases rx
  obtain ⟨od, J⟩ := ins_at I ea
  obtain ⟨m, fr⟩ := I.fr
  obtain ⟨tb, hl, hn⟩ := hty pins s σ H y u I ry ht
  have hu : X.A.units < cLine := by have := hr.un; omega
  show wpAny _ _ (richCompare .Eq (.ref a) u) _ _ _
  refine PySem.W.cmp_K (op := .Eq) hu fr I.ok.mod.kin J hl hn hs hf (thn (run_at F hr I.env0 hb hx I (.cons (rr _) (.cons ry .nil)) q) fun z s' hz => ?_)
  obtain ⟨v, H', I', rv, b, ev, q'⟩ := hz
  subst ev
  cases rv
  exact ⟨.bl b, H', I', rfl, q'⟩
end
end My

end

section
/-! ### != by an own __eq__, where __ne__ is object's -/
namespace My
open PySem PySem.Spec PyProof.Rows L2
section
open PySem.W
variable {prog : Program} {w : World} {A : Around} {E : Value → Shared → Prop} {K : Frag} {x C f : Addr} {ox : Obj} {od : Option Obj} {u tb : Value}
theorem slot_ne : Slot "object" "__ne__" "object.__ne__" := F.cmp_object.ne
theorem objNe_in {s : Shared} {Q : Fin → Shared → Prop} (X : K.In s.heap) (I : InstAt s.heap x ox C od) (hs : findIn K (.ref C) "__eq__" = some (some (.ref f))) (hf : isFn K (.ref f) = true) (hu : A.units < cLine)
    (hcall : wpAny (model prog w) A (call (.ref f) [.ref x, u]) (fun v s' => ∃ b, v = .bool b ∧ Q (.done (.ret (.bool (!b)))) s') E s) : wpAny (model prog w) A (Builtin.«object.__ne__» ⟨[.ref x, u], []⟩) Q E s := by
  obtain ⟨h, g, d, t, os⟩ := s
  have road : ∀ (Z : Option Value → Shared → Prop), (∀ b s', Q (.done (.ret (.bool (!b)))) s' → Z (some (.bool b)) s') → wpAny (model prog w) A (callSpecialIfBound? (.ref x) (Str.ofString "__eq__") [u]) Z E ⟨h, g, d, t, os⟩ := fun Z hz =>
    ifBound_K X I hs hf (wpAny_mono hcall (fun v s' ⟨b, e, q⟩ => e ▸ hz b s' q) fun _ _ e => e)
  unfold Builtin.«object.__ne__»
  repeat (first
    | with_reducible refine wpAny_cRoomFor hu ?_
    | (refine wpAny_bind (m := callSpecialIfBound? (.ref x) (Str.ofString "__eq__") [u]) (road _ fun b s' q => ?_))
    | exact q
    | exact wpAny_truthy_bool q
    | (refine wpAny_bind (m := truthy (.bool _)) (wpAny_truthy_bool ?_))
    | wp_step)
theorem ne_K {s : Shared} {Q : Value → Shared → Prop} (hu : A.units + 1 < cLine) (X : K.In s.heap) (I : InstAt s.heap x ox C od) (hb : Looks (model prog w) s.heap (typeOf u) tb) (hn : notFirst K C tb = true) (hob : mroIn K C (.type "object") = some true)
    (hne : findIn K (.ref C) "__ne__" = some (some (.builtin "object.__ne__"))) (hs : findIn K (.ref C) "__eq__" = some (some (.ref f))) (hf : isFn K (.ref f) = true)
    (h : wpAny (model prog w) A.in1 (call (.ref f) [.ref x, u]) (fun v s' => ∃ b, v = .bool b ∧ Q (.bool (!b)) s') E s) : wpAny (model prog w) A (compareOp .NotEq (.ref x) u) Q E s := by
  have sub : Looks (model prog w) s.heap (isInstance (.ref x) (.type "object")) true := I.type.andThen (looks_mroIn X hob)
  have body : wpAny (model prog w) A (call (.builtin "object.__ne__") [.ref x, u]) (fun v s' => ∃ b : Bool, v = .bool b ∧ Q (.bool b) s') E s := by
    refine wpAny_call (codeAny_call_builtin slot_ne.plain F.cmpEntry_ne (@W.check_slot (model prog w) _ _ s "object.__ne__" "object" "__ne__" (.ref x) [u] [] _ F.cmpKind_ne F.cmpSplit_ne sub (F.cmpArgs_ne _ _) ?_))
    refine objNe_in (A := A.in1) X I hs hf hu (wpAny_mono h (fun v s' hv => ?_) fun _ _ e => e)
    obtain ⟨b, rfl, q⟩ := hv
    exact ⟨b, rfl, !b, rfl, q⟩
  have one : wpAny (model prog w) A (tryCompare (.ref x) "__ne__" u) (fun r s' => ∃ b : Bool, r = some (.bool b) ∧ Q (.bool b) s') E s := by
    unfold tryCompare
    refine wpAny_bind (?_ : wpAny _ _ (callSpecialIfBound? (.ref x) "__ne__" [u]) _ _ _)
    simp only [callSpecialIfBound?, bindSpecialIfBound?]
    refine wpAny_holding (wpAny_bind (wpAny_bind (wpAny_bind (I.type.here ((looks_findIn X hne).here ?_)))))
    refine wpAny_bind (wpAny_askSetting (wpAny_ite ?_))
    split
    · refine wpAny_bind (wpAny_of_eq (slot_ne.bind _) (wpAny_pure (wpAny_bind (wpAny_mono body (fun v s' hv => ?_) fun _ _ e => e))))
      obtain ⟨b, rfl, q⟩ := hv
      exact wpAny_pure (wpAny_pure ⟨b, rfl, q⟩)
    · refine wpAny_tryCatch (wpAny_bind (wpAny_of_eq (slot_ne.bind _) (wpAny_pure (wpAny_bind (wpAny_mono body (fun v s' hv => ?_) fun _ _ e => ?_)))))
      · obtain ⟨b, rfl, q⟩ := hv
        exact wpAny_pure (wpAny_pure ⟨b, rfl, q⟩)
      · exact e
  unfold compareOp richCompare
  simp only [oneThing_ref]
  refine wpAny_holding (wpAny_bind (wpAny_cRoomFor (by omega) ?_))
  refine wpAny_bind (I.type.here (wpAny_bind (hb.here ?_)))
  have last : ∀ r s', (∃ b : Bool, r = some (Value.bool b) ∧ Q (.bool b) s') → ∃ v, r = some v ∧ Q v s' := fun r s' ⟨b, e, q⟩ => ⟨_, e, q⟩
  split
  · rename_i q
    have e : subIn K tb (.ref C) = some false := by
      rcases Bool.or_eq_true_iff.mp hn with e | e
      · rw [beq_iff_eq.mp e] at q; simp at q
      · exact beq_iff_eq.mp e
    refine wpAny_bind ((looks_subIn X e).here ?_)
    simp only [Bool.false_eq_true, if_false]
    refine wpAny_bind (wpAny_mono one (fun r s' z => ?_) fun _ _ e => e)
    obtain ⟨v, rfl, hq⟩ := z
    exact wpAny_pure hq
  · refine wpAny_bind (wpAny_pure ?_)
    simp only [Bool.false_eq_true, if_false]
    refine wpAny_bind (wpAny_mono one (fun r s' z => ?_) fun _ _ e => e)
    obtain ⟨v, rfl, hq⟩ := z
    exact wpAny_pure hq
end
section
variable {X : Cx} {CX : CXT} {k : Nat} {C : Addr} {ps : List Str} {sp : Sp} {E : XK}
def rNeO (C : Addr) (sp : Sp) (E : XK) (ty : V → Hp → Prop) : R2 := fun x y H Q => ∃ a dx fs, x = .ref a ∧ H a = some (.ins C dx fs) ∧ ty y H ∧ sp [.ref a, y] H (fun v H' => ∃ b, v = .bl b ∧ Q (.bl (!b)) H') E
theorem op_neO {ty : V → Hp → Prop} (S : Spc X.prog X.w X.K X.mg X.base CX C "__eq__" ps k sp) (hr : Room (k + 1) X.A) (hx : Passes CX X E) (hob : PySem.W.mroIn X.K C (.type "object") = some true)
    (hne : PySem.W.findIn X.K (.ref C) "__ne__" = some (some (.builtin "object.__ne__")))
    (hty : ∀ (pins : List (Addr × Obj)) (s : Shared) (σ : L2.St) (H : Hp) (y : V) (u : Value), Inv X pins σ H s → RelV y u → ty y H → ∃ tb, PySem.W.Looks (model X.prog X.w) s.heap (typeOf u) tb ∧ PySem.W.notFirst X.K C tb = true) :
    OpR X (compareOp .NotEq) (rNeO C sp E ty) := by
  intro pins s σ H x y v u Q I rx ry h
  obtain ⟨a, dx, fs, rfl, ea, ht, q⟩ := h
  obtain ⟨f, fd, F, hb, hs, hf, _⟩ := S.ex
  cases rx
  obtain ⟨od, J⟩ := ins_at I ea
  obtain ⟨tb, hl, hn⟩ := hty pins s σ H y u I ry ht
  have hu : X.A.units + 1 < cLine := by have := hr.un; omega
  refine ne_K hu I.kIn J hl hn hob hne hs hf (thn (run_at F hr.in1 I.env0.in1 hb hx I (.cons (rr _) (.cons ry .nil)) q) fun z s' hz => ?_)
  obtain ⟨v, H', I', rv, b, ev, q'⟩ := hz
  subst ev
  cases rv
  exact ⟨b, rfl, .bl (!b), H', I', rfl, q'⟩
end
end My

end

section
/-! ### defs that are called where nothing is being shown: repr of lists, tuples, dicts -/
namespace My
open PySem PySem.Spec PyProof.Rows L2
/-- as FnOk, at surroundings without guards -/
structure FnG (P : Program) (w : World) (K : PySem.W.Frag) (mg : Str → Option Value) (base : Heap) (CX : CXT) (k : Nat) (f : Addr) (fd : FuncData) (ps : List Str) (sp : Sp) : Prop where
  len : ∀ vs H Q E, sp vs H Q E → vs.length = ps.length
  run : ∀ (A : Around) (outer : List Env) (s : Shared) (H : Hp) (args : Args) (us : List Value) (vs : List V) (Q : VK) (E : XK), A.guards = some [] → Room k A → Env0 P w K mg base A outer s H → BindsTo s fd args (ps.zip us) → Vals vs us → sp vs H Q E →
    codeAny (model P w) A (.call (.ref f) args) (CR CX outer P w H s Q E) s
section
variable {P : Program} {w : World} {K : PySem.W.Frag} {mg : Str → Option Value} {base : Heap} {CX : CXT} {x qual : Str} {params : Arguments} {body : List Stmt} {scope : Scope} {dvs : List V} {kws : List (Str × V)} {f : Addr} {fd : FuncData}
theorem FunD.okG {N ps : List Str} {k : Nat} {sp : Sp} (F : FunD K x qual params body scope dvs kws f fd) (S : FnScope N ps scope) (len : ∀ vs H Q E, sp vs H Q E → vs.length = ps.length)
    (hbody : ∀ (cdv : Value) (A : Around) (outer : List Env) (s : Shared) (H : Hp) (vs : List V) (Q : VK) (E : XK), A.guards = some [] → Room k (A.deeper (envOfC qual scope s.heap.objs.size f cdv)) → sp vs H Q E →
      ∃ t, PSs (cxOf CX P w K mg base N qual scope f cdv A outer s H E) body t ∧ t { nx := fun _ H' => Q .non H', rt := Q } (start N vs) H) : FnG P w K mg base CX (k + 1) f fd ps sp := by
  obtain ⟨oc, od, dV, kV, doc, pm, an, cdv, ct, osl, rfl, lk, hcd, _, _⟩ := F.ex
  refine ⟨len, fun A outer s H args us vs Q E hg hr e0 hb r hsp => ?_⟩
  -- what this one entry asks, as a promise that no other entry can meet
  have keep : ∀ b o, base.get? b = some o → s.heap.get? b = some o := fun b o e => (e0.bs b o e).1
  have X : K.In s.heap := e0.mod.kin.keeps keep
  have nl : s.heap.NoLimit := e0.mod.nolimit.keeps keep
  have hl := len _ _ _ _ hsp
  have kinds : ∀ y ∈ ps.zip us, scope.names.lookup y.1 = some .local ∨ (scope.names.lookup y.1 = some .cell ∧ ((cellsFrom (s.heap.objs.size + 1) scope.names []).lookup y.1).isSome = true) := by
    intro y hy
    exact (S.par y.1 (List.of_mem_zip (a := y.1) (b := y.2) hy).1).imp id fun q => ⟨q, PySem.W.cellsFrom_some _ _ _ (.inl q)⟩
  obtain ⟨t, ht, hq⟩ := hbody cdv A outer s H vs Q E hg (hr.deeper _) hsp
  refine codeAny_call_function hr.depth (X _ _ lk) rfl S.co S.gen rfl (PySem.W.codeRec_of X hcd) (hb _ _ _ _ (wpAny_newFunctionEnv_cells S.kind kinds fun env he s1 x => ?_))
  subst he
  refine ⟨nl.keeps x.toInCall.keep, codeAny_func (wpAny_mono (ht.run [] s1 (start N vs) H _ (inv_start S hr.hd e0 hl r x) hq) (fun fl s' hs => ?_) fun e s' hs => hs)⟩
  match fl, hs with
  | .ret u, ⟨v, σ', H', J, rv, q⟩ => exact ⟨v, H', J.os, J.bare, J.base, J.hok, rv, q⟩
  | .next, ⟨σ', H', J, q⟩ => exact ⟨V.non, H', J.os, J.bare, J.base, J.hok, rfl, q⟩
  | .brk, ⟨_, _, _, q⟩ => exact False.elim q
  | .cont, ⟨_, _, _, q⟩ => exact False.elim q
end
/-- as Cl, for such a def -/
structure ClG (P : Program) (w : World) (K : PySem.W.Frag) (mg : Str → Option Value) (base : Heap) (CX : CXT) (x : Str) (ps : List Str) (k : Nat) (sp : Sp) : Prop where
  ex : ∃ fd, FnG P w K mg base CX k (He.ga K x) fd ps sp ∧ Binds K fd ps []
  kp : PySem.W.keepIn K (.ref (He.ga K x)) = true
  g : mg x = some (.ref (He.ga K x))
theorem pe_clG {X : Cx} {CX : CXT} {k : Nat} {ps : List Str} {sp : Sp} {E : XK} {x : Str} {p pos : Pos} {e : Expr} {es : List Expr} {t : TA} (C : ClG X.prog X.w X.K X.mg X.base CX x ps k sp) (hg0 : X.A.guards = some []) (hr : Room k X.A) (hx : Passes CX X E) (hg : Gl X x)
    (ha : PA X (e :: es) t) (hdb : (x == ("__debug__" : Str)) = false := by decide) (he : starEach (e :: es) X.env = (false, eval e X.env) :: starEach es X.env := by rfl) (hpl : (backTo pos (starEach es X.env)).any (·.1) = false := by rfl) :
    PE X (.Call (.Name x p) (e :: es) [] pos) (tCall sp [] E t) := by
  obtain ⟨fd, F, hb⟩ := C.ex
  refine ⟨fun pins s σ H Q I h => wpAny_Call_Name_kw (ld_glob I hg C.g (PySem.W.callWith_K (h₀ := X.base) I.ok.mod.kin C.kp (thn (ha.run pos pins s σ H _ I h) fun us s1 ⟨vs, H1, I1, r, q⟩ => ⟨I1.kIn, ?_⟩) he hpl) hdb)⟩
  have q : sp (vs ++ []) H1 Q E := q
  rw [List.append_nil] at q
  have hl : (us ++ []).length = ps.length := by rw [List.append_nil, ← r.length]; exact F.len _ _ _ _ q
  have hbb := hb s1 us I1.kIn hl
  rw [List.append_nil] at hbb
  refine wpAny_call (codeAny_mono (F.run X.A X.stack s1 H1 ⟨us, []⟩ us vs Q E hg0 hr I1.env0 hbb r q) fun r s' hq => ?_)
  match r, hq with
  | .error e, hq => exact hx pins σ H1 s1 e s' I1 hq
  | .ok (.ret u), hq => exact I1.after hq
  | .ok .next, hq => exact False.elim hq
  | .ok .brk, hq => exact False.elim hq
  | .ok .cont, hq => exact False.elim hq
/-! ### the law's end over such a def -/
/-- a law that stands at fa, its script at a: the promise at the surroundings of a law's call -/
theorem callG {P : Program} {w : World} {K : PySem.W.Frag} {mg mb : Str → Option Value} {CX : CXT} {k : Nat} {fa a : Addr} {fd : FuncData} {x : Str} {sp : Sp} {s₁ : Shared} {vs : List Value} {ns : List Int}
    (KX : K.In s₁.heap) (hns : s₁.heap.Ns mainGlobals mg) (hb : s₁.heap.Ns builtinsNs mb) (hbb : ∀ x : Str, x ≠ "__name__" → mb x = bootBuiltins x) (hlim : s₁.heap.NoLimit) (hg : s₁.gens = #[])
    (ha : s₁.heap.get? a = some { cls := .type "list", data := .seq vs.toArray }) (hi : IntsAre vs ns) (hl : ns.length ≤ sizeLine) (hr : Room k callerA)
    (F : ∀ base : Heap, K.In base → base.Ns mainGlobals mg → FnG P w K mg base CX k fa fd [x] sp) (hbind : ∀ (s : Shared) (u : Value), BindsTo s fd ⟨[u], []⟩ [(x, u)])
    (hsp : ∀ H : Hp, Only H → SqL K H a (ns.map V.int) → sp [.ref a] H (fun v _ => v = .bl true) fun _ _ _ => False) (hCX : ∀ H e s', CX [] H s₁ (fun _ _ _ => False) e s' → False) :
    codeAny (model P w) callerA (.call (.ref fa) ⟨[.ref a], []⟩) (fun r s' => r = .ok (.ret (.bool true)) ∧ OldK s₁.heap s'.heap ∧ s'.os = s₁.os ∧ AllBare s'.gens) s₁ := by
  obtain ⟨rv, lenV⟩ : Vals (ns.map V.int) vs ∧ vs.length = ns.length := ⟨vals_ints hi, hi.length⟩
  let ob : Obj := { cls := .type "list", data := .seq vs.toArray }
  -- what is tracked: nothing, or the script
  suffices go : ∀ H : Hp, (∀ b u, H b = some u → b = a ∧ u = .frz ob (.lst (ns.map V.int)) ∧ K.lookup a = none) → SqL K H a (ns.map V.int) →
      codeAny (model P w) callerA (.call (.ref fa) ⟨[.ref a], []⟩) (fun r s' => r = .ok (.ret (.bool true)) ∧ OldK s₁.heap s'.heap ∧ s'.os = s₁.os ∧ AllBare s'.gens) s₁ by
    cases hk : K.lookup a with
    | some o =>
      have e : o = ob := by have := KX a o hk; rw [ha] at this; exact (Option.some.inj this).symm
      subst e
      exact go (fun _ => none) (fun b u z => nomatch (show (none : Option HO) = some u from z)) (.inr ⟨_, vs.toArray, _, hk, rfl, rfl, rfl, by rw [List.size_toArray, lenV]; exact hl, by simpa using rv⟩)
    | none =>
      refine go (fun b => if b = a then some (.frz ob (.lst (ns.map V.int))) else none) (fun b u z => ?_) (.inl (.inr ⟨ob, if_pos rfl⟩))
      by_cases hb : b = a
      · have z' : some (HO.frz ob (.lst (ns.map V.int))) = some u := (if_pos hb).symm.trans z
        exact ⟨hb, (Option.some.inj z').symm, hk⟩
      · have z' : none = some u := (if_neg hb).symm.trans z
        cases z'
  intro H hH hS
  have hO : Only H := fun b => by
    cases q : H b with
    | none => exact .inl rfl
    | some u => exact .inr ⟨ob, _, congrArg some (hH b u q).2.1⟩
  have hok : HOk P w H s₁.heap := fun b u q => by
    obtain ⟨rfl, rfl, _⟩ := hH b u q
    exact ⟨ha, by rw [List.length_map]; exact hl, vs, _, rv, ha⟩
  have free : ∀ {b : Addr}, b ≠ a ∨ K.lookup a ≠ none → H b = none := fun {b} h => by
    cases q : H b with
    | none => rfl
    | some u =>
      obtain ⟨e1, _, e2⟩ := hH b u q
      exact (h.elim (fun z => z e1) fun z => z e2).elim
  have ns_of : ∀ {b : Addr} {m : Str → Option Value}, s₁.heap.Ns b m → (hidT s₁.heap H).Ns b m := fun {b m} ⟨o, es, ep, e, d, r⟩ => by
    refine ⟨o, es, ep, hidT_get e (free (.inl fun z => ?_)), d, r⟩
    rw [z, ha] at e
    rw [← Option.some.inj e] at d
    exact nomatch (show Data.seq vs.toArray _ = Data.dict es ep from d)
  have hKb : K.In (hidT s₁.heap H) := fun b o e => hidT_get (KX b o e) (by
    by_cases hb : b = a
    · exact free (.inr (by rw [← hb, e]; exact fun z => nomatch z))
    · exact free (.inl hb))
  have e0 : Env0 P w K mg (hidT s₁.heap H) callerA [] s₁ H :=
    ⟨rfl, ⟨hKb, ns_of hns, ⟨mb, ns_of hb, hbb⟩, let ⟨mc, h1, h2⟩ := hlim; ⟨mc, ns_of h1, h2⟩⟩, fun _ _ e => of_hidT e, Nat.le_of_eq (hidT_size _ _), trivial, fun b z => absurd z (List.not_mem_nil), hok, .of_eq hg⟩
  refine codeAny_mono ((F _ hKb (ns_of hns)).run callerA [] s₁ H ⟨[.ref a], []⟩ [.ref a] [.ref a] _ _ rfl hr e0 (hbind s₁ (.ref a)) (.cons rfl .nil) (hsp H hO hS)) fun r s' h => ?_
  match r, h with
  | .error e, h => exact (hCX H e s' h).elim
  | .ok .next, h => exact False.elim h
  | .ok .brk, h => exact False.elim h
  | .ok .cont, h => exact False.elim h
  | .ok (.ret u), ⟨v, H', os, bare, un, hok', rv', q⟩ =>
    obtain rfl : v = .bl true := q
    obtain rfl : u = Value.bool true := rv'
    refine ⟨rfl, OldK.of_keep fun b o e => ?_, os, bare⟩
    cases q : H b with
    | none => exact un.keep b o e q List.not_mem_nil List.not_mem_nil
    | some u =>
      obtain ⟨rfl, rfl, _⟩ := hH b u q
      obtain ⟨e2, _⟩ := hok' b _ (un.frzs b ob _ q)
      rw [ha] at e
      rw [← Option.some.inj e]
      exact e2
theorem walk_ofG {l : PySem.W.OpenLaw} {n k : Nat} {q : Program} {loose : List Str} {XP : (Str → Option Value) → Heap → Prop} {YP : World → Heap → Prop} {d : DefRec} {CX : World → CXT} {x : Str}
    (hn : l.most = some n) (hn2 : n ≤ sizeLine) (hdf : d.params.defaults = []) (hr : Room k callerA)
    (F : ∀ (w : World) (mg : Str → Option Value) (fa : Addr) (h : Heap), YP w h → h.Ns mainGlobals mg → mg d.name = some (.ref fa) →
      ∃ (K : PySem.W.Frag) (fd : FuncData) (sp : Sp), K.In h ∧ (∀ (s : Shared) (u : Value), BindsTo s fd ⟨[u], []⟩ [(x, u)]) ∧
        (∀ (H : Hp) (a : Addr) (ns : List Int), ns.length ≤ n → (∀ z ∈ ns, Builtin.Int.intBits z ≤ 1048576) → Only H → SqL K H a (ns.map V.int) → sp [.ref a] H (fun v _ => v = .bl true) fun _ _ _ => False) ∧
        ∀ base : Heap, K.In base → base.Ns mainGlobals mg → FnG l.prog w K mg base (CX w) k fa fd [x] sp)
    (hCX : ∀ (w : World) (H : Hp) (s : Shared) (e : Value) (s' : Shared), CX w [] H s (fun _ _ _ => False) e s' → False) :
    PySem.W.WalkO q loose XP YP l.row.toRowW d [] (fun f vs => PySem.call f vs) := by
  refine Att.attach_callB hn hdf fun w s₀ s₁ mg mb fa o pm cd doc a vs ns G Y ho hd hcd hmg hobj hints hlen hbits hg => ?_
  obtain ⟨K, fd, sp, KX, hb, hsp, hF⟩ := F w mg fa _ Y G.T.g hmg
  exact callG KX G.T.g G.T.b G.T.builtins G.T.nolimit hg hobj hints (Nat.le_trans hlen hn2) hr hF hb (fun H hO hS => hsp H a ns hlen hbits hO hS) fun H e s' => hCX w H s₁ e s'
/-! ### repr(x) of data at any depth -/
/-- what a value shows as: data without dicts, or an empty dict -/
def rRepr (K : PySem.W.Frag) : List V → Hp → VK → Prop := fun xs H Q => ∃ x d, xs = [x] ∧ Dp K H x d ∧ d.showable = true ∧ d.canLay0 = true ∧ d.depth ≤ 64 ∧ d.shown.length ≤ sizeLine ∧ Q (.str d.shown) H
theorem call_reprD {X : Cx} (hg0 : X.A.guards = some []) (hu : X.A.units + 100 < cLine) : CallR X (.builtin "repr") (rRepr X.K) := by
  intro pins s σ H xs us Q I r h
  obtain ⟨x, d, rfl, hd, hs, hc, hdep, hsz, q⟩ := h
  cases r with
  | cons r1 r2 =>
    rename_i u us'
    cases r2
    obtain ⟨as, rd⟩ := Dp.reads I d x u hd r1
    have hno : d.hasDict = true → sysModules ∉ as := PyData.noDict_hsm (PyData.hasDict_of_canLay d hc)
    cases hd with
    | non => cases r1; exact PySem.P.repr_of_none ⟨.str _, H, I.tok _, ⟨_, rfl⟩, q⟩
    | bl b => cases r1; exact PySem.P.repr_of_bool ⟨.str _, H, I.tok _, ⟨_, rfl⟩, q⟩
    | int i => obtain ⟨t, rfl⟩ := r1; exact PySem.P.repr_of_int (by simpa [PyData.showable] using hs) ⟨.str _, H, I.tok _, ⟨_, rfl⟩, q⟩
    | str z => obtain ⟨t, rfl⟩ := r1; exact PySem.P.repr_of_str ⟨.str _, H, I.tok _, ⟨_, rfl⟩, q⟩ hsz
    | lst h1 h2 =>
      cases r1
      exact repr_of_reads' rd hs hno hg0 (by omega) (fun _ _ e => e) (fun h' u' tk k => ⟨.str _, H, I.kept k, ⟨_, rfl⟩, q⟩) hsz
    | tup h1 h2 =>
      cases r1
      exact repr_of_reads' rd hs hno hg0 (by omega) (fun _ _ e => e) (fun h' u' tk k => ⟨.str _, H, I.kept k, ⟨_, rfl⟩, q⟩) hsz
end My

end

section
/-! ### the head's facts: defs and facts by names, and one more Bool -/
namespace My
open PySem PySem.Spec PyProof.Rows L2
theorem ba {a b : Bool} (h : (a && b) = true) : a = true ∧ b = true := Bool.and_eq_true_iff.mp h
section
variable {P : Program} {w : World} {K : PySem.W.Frag} {mg : Str → Option Value} {base : Heap} {CX : CXT}
/-- a method, as its callers need it -/
structure Cm (P : Program) (w : World) (K : PySem.W.Frag) (mg : Str → Option Value) (base : Heap) (CX : CXT) (x m : Str) (ps : List Str) (k : Nat) (sp : Sp) : Prop where
  ex : ∃ fd, FnOk P w K mg base CX k (He.ma K (He.ga K x) m) fd ps sp ∧ Binds K fd ps []
  me : Meth K (He.ga K x) m (He.ma K (He.ga K x) m)
  cl : Cls K (He.ga K x)
  fi : PySem.W.fnIn K (He.ma K (He.ga K x) m) = true
theorem Cm.spc {x m : Str} {ps : List Str} {k : Nat} {sp : Sp} (C : Cm P w K mg base CX x m ps k sp) : Spc P w K mg base CX (He.ga K x) m ps k sp := by
  obtain ⟨fd, F, b⟩ := C.ex
  exact ⟨_, fd, F, b, C.me.at_, C.me.fn, C.fi⟩
end
section
variable {X : Cx} {CX : CXT} {k : Nat} {ps : List Str} {sp : Sp} {E : XK} {x m : Str} {p pos apos : Pos} {o e : Expr} {es : List Expr} {t : TA} {ta : TE}
theorem pe_cm {pl : Sem Bool} (C : Cm X.prog X.w X.K X.mg X.base CX x m ps k sp) (hr : Room k X.A) (hx : Passes CX X E) (he : PE X o ta) (ha : PA X (e :: es) t)
    (hst : starEach (e :: es) X.env = (false, eval e X.env) :: starEach es X.env := by rfl) (hpl : (backTo pos (starEach es X.env)).any (·.1) = false := by rfl)
    (ht : eval (.Call (.Attribute o m apos) (e :: es) [] pos) X.env = (do
      let ov ← eval o X.env
      standAt apos.atName
      let (f, first) ← holding [ov] (getMethod ov m pl)
      callWith pos f first (backTo pos (starEach (e :: es) X.env)) (backToKw pos (keywordEach [] X.env))) := by rfl) :
    PE X (.Call (.Attribute o m apos) (e :: es) [] pos) (tMeth (He.ga X.K x) m sp [] E ta t) := by
  obtain ⟨fd, F, b⟩ := C.ex
  exact pe_meth he C.cl C.me F hr b .nil hx ha hst hpl ht
theorem pe_cm0 {pl : Sem Bool} (C : Cm X.prog X.w X.K X.mg X.base CX x m ps k sp) (hr : Room k X.A) (hx : Passes CX X E) (he : PE X o ta)
    (ht : eval (.Call (.Attribute o m apos) [] [] pos) X.env = (do
      let ov ← eval o X.env
      standAt apos.atName
      let (f, first) ← holding [ov] (getMethod ov m pl)
      callWith pos f first (backTo pos (starEach [] X.env)) (backToKw pos (keywordEach [] X.env))) := by rfl) :
    PE X (.Call (.Attribute o m apos) [] [] pos) (tMeth (He.ga X.K x) m sp [] E ta tNil) := by
  obtain ⟨fd, F, b⟩ := C.ex
  exact pe_meth0 he C.cl C.me F hr b .nil hx ht
end
end My

end

section
/-! ### more steps: fields, methods, isinstance, exceptions, locks -/
namespace My
open PySem PySem.Spec PyProof.Rows L2
section
variable {σ : L2.St} {H : Hp} {Q : VK} {nx bk ct : L2.St → Hp → Prop} {rt : VK} {t t1 t2 u : TS} {te ta tb tc tv : TE} {c d : TT} {g : TG} {x y v w : V} {K : PySem.W.Frag} {f m : Str} {E : XK}
theorem x_fld (h : ta σ H fun x H1 => ∃ a C dx fs v, x = .ref a ∧ H1 a = some (.ins C dx fs) ∧ Cls K C ∧ NoAttr K C f ∧ fs.lookup f = some v ∧ Q v H1) : tFld K ta f σ H Q := h
theorem x_fldE {a C dx : Addr} {fs : List (Str × V)} {R : V → Prop} (h : H a = some (.ins C dx fs)) (hc : Cls K C) (hn : NoAttr K C f) (hl : fs.lookup f = some v) (k : R v) :
    ∃ (b C dx : Addr) (fs : List (Str × V)) (v : V), V.ref a = .ref b ∧ H b = some (.ins C dx fs) ∧ Cls K C ∧ NoAttr K C f ∧ fs.lookup f = some v ∧ R v := ⟨a, C, dx, fs, v, rfl, h, hc, hn, hl, k⟩
theorem x_sfld (h : tv σ H fun y H1 => ta σ H1 fun x H2 => ∃ a C dx fs, x = .ref a ∧ H2 a = some (.ins C dx fs) ∧ Cls K C ∧ NoAttr K C f ∧ fs.length < 1000 ∧ nx σ (upd H2 a (.ins C dx (putF f y fs)))) : sFld K ta tv f ⟨nx, rt, bk, ct⟩ σ H := h
theorem x_sfldE {a C dx : Addr} {fs gs : List (Str × V)} {R : Hp → Prop} (h : H a = some (.ins C dx fs)) (hc : Cls K C) (hn : NoAttr K C f) (hz : fs.length < 1000) (e : putF f y fs = gs) (k : R (upd H a (.ins C dx gs))) :
    ∃ (b C dx : Addr) (fs : List (Str × V)), V.ref a = .ref b ∧ H b = some (.ins C dx fs) ∧ Cls K C ∧ NoAttr K C f ∧ fs.length < 1000 ∧ R (upd H b (.ins C dx (putF f y fs))) := ⟨a, C, dx, fs, rfl, h, hc, hn, hz, e ▸ k⟩
theorem x_meth {C : Addr} {sp : Sp} {dvs : List V} {tt : TA} (h : ta σ H fun x H1 => ∃ a dx fs, x = .ref a ∧ H1 a = some (.ins C dx fs) ∧ fs.lookup m = none ∧ tt σ H1 fun vs H2 => sp (x :: (vs ++ dvs)) H2 Q E) : tMeth C m sp dvs E ta tt σ H Q := h
theorem x_methE {a C dx : Addr} {fs : List (Str × V)} {R : Prop} (h : H a = some (.ins C dx fs)) (hl : fs.lookup m = none) (k : R) : ∃ (b dx : Addr) (fs : List (Str × V)), V.ref a = .ref b ∧ H b = some (.ins C dx fs) ∧ fs.lookup m = none ∧ R := ⟨a, dx, fs, rfl, h, hl, k⟩
theorem x_make {C : Addr} {sp : Sp} {dvs : List V} {tt : TA} (h : tt σ H fun vs H1 => ∀ x dx, H1 x = none → H1 dx = none → dx ≠ x → sp (.ref x :: (vs ++ dvs)) (upd (upd H1 dx (.own x)) x (.ins C dx [])) (fun v H2 => v = .non ∧ Q (.ref x) H2) E) : tMake C sp dvs E tt σ H Q := h
theorem x_isi {x c : V} {t u : Value} {b : Bool} (hc : ClsV c u) (hx : TyX K H x t) (hk : PySem.W.kitOne K t u = some b) (k : Q (.bl b) H) : rIsi K [x, c] H Q := ⟨x, c, t, u, b, rfl, hc, hx, hk, k⟩
theorem x_isiT {x : V} {tp : Addr} {cs : List V} {t : Value} {us : List Value} {b : Bool} (h : H tp = some (.tup cs)) (hc : Paired ClsV cs us) (hx : TyX K H x t) (hk : PySem.W.kitAny K t us = some b) (k : Q (.bl b) H) : rIsiT K [x, .ref tp] H Q := ⟨x, tp, cs, t, us, b, rfl, h, hc, hx, hk, k⟩
theorem x_ixO {C a dx : Addr} {fs : List (Str × V)} {sp : Sp} (h : H a = some (.ins C dx fs)) (k : sp [.ref a, y] H Q E) : rIxO C sp E (.ref a) y H Q := ⟨a, dx, fs, rfl, h, k⟩
theorem x_eqO {C a dx : Addr} {fs : List (Str × V)} {sp : Sp} {ty : V → Hp → Prop} (h : H a = some (.ins C dx fs)) (ht : ty y H) (k : sp [.ref a, y] H (fun v H' => ∃ b, v = .bl b ∧ Q (.bl b) H') E) : rEqO C sp E ty (.ref a) y H Q := ⟨a, dx, fs, rfl, h, ht, k⟩
theorem x_neO {C a dx : Addr} {fs : List (Str × V)} {sp : Sp} {ty : V → Hp → Prop} (h : H a = some (.ins C dx fs)) (ht : ty y H) (k : sp [.ref a, y] H (fun v H' => ∃ b, v = .bl b ∧ Q (.bl (!b)) H') E) : rNeO C sp E ty (.ref a) y H Q := ⟨a, dx, fs, rfl, h, ht, k⟩
theorem x_cat {a b : Addr} {xs ys : List V} (h : H a = some (.lst xs)) (h' : H b = some (.lst ys)) (l : xs.length + ys.length ≤ sizeLine) (k : ∀ p, H p = none → Q (.ref p) (upd H p (.lst (xs ++ ys)))) : rCat (.ref a) (.ref b) H Q := ⟨a, b, xs, ys, rfl, rfl, h, h', l, k⟩
end
end My

end

section
/-! ### loops over anything that is walked, by what is behind and ahead -/
namespace My
open PySem PySem.Spec PyProof.Rows L2
/-- J walks the things ys while G holds; a turn hands on a value, and the heap then, as it tells -/
structure Runs {α : Type} (J : It) (ys : List α) (G : Hp → Prop) (it : Nat → α → Hp → V → Hp → Prop) : Prop where
  go : ∀ i x H, ys[i]? = some x → G H → J.go i H
  stop : ∀ i H, ys.length ≤ i → G H → J.stop i H
  yld : ∀ i x H v H', ys[i]? = some x → G H → J.yld i H v H' → it i x H v H'
section
variable {α : Type} {J : It} {ys : List α} {G : Hp → Prop} {it : Nat → α → Hp → V → Hp → Prop} {g : TG} {tb : TS} {σ : L2.St} {H : Hp} {nx : L2.St → Hp → Prop} {rt : VK}
theorem for_runs (R : Runs J ys G it) (Pv : List α → L2.St → Hp → Prop) (h0 : Pv [] σ H) (hl : ∀ pre post σ H, ys = pre ++ post → Pv pre σ H → G H)
    (hs : ∀ pre x post σ H v H', ys = pre ++ x :: post → Pv pre σ H → it pre.length x H v H' → g v σ H' fun σ2 H2 => tb ⟨Pv (pre ++ [x]), rt, nx, Pv (pre ++ [x])⟩ σ2 H2) (hd : ∀ σ H, Pv ys σ H → nx σ H) :
    ∃ W : Nat → Nat → L2.St → Hp → Prop, (∃ m, W 0 m σ H) ∧ ∀ i m σ H, W i m σ H →
      (J.stop i H ∧ nx σ H) ∨ (J.go i H ∧ ∃ N : L2.St → Hp → Prop, (∀ σ' H', N σ' H' → ∃ m', m' < m ∧ W (i + 1) m' σ' H') ∧ ∀ x H', J.yld i H x H' → g x σ H' fun σ2 H2 => tb ⟨N, rt, nx, N⟩ σ2 H2) := by
  refine ⟨fun i m σ H => m = ys.length - i ∧ i ≤ ys.length ∧ Pv (ys.take i) σ H, ⟨ys.length, by simp, Nat.zero_le _, h0⟩, ?_⟩
  rintro i m σ H ⟨rfl, hi, p⟩
  have q := hl _ (ys.drop i) σ H (List.take_append_drop i ys).symm p
  by_cases hlt : i < ys.length
  · have hx : ys[i]? = some ys[i] := List.getElem?_eq_getElem hlt
    refine .inr ⟨R.go i _ H hx q, Pv (ys.take (i + 1)), fun σ' H' p' => ⟨ys.length - (i + 1), by omega, rfl, hlt, p'⟩, fun v H' y => ?_⟩
    have hy := R.yld i _ H v H' hx q y
    have hlen : (ys.take i).length = i := by rw [List.length_take, Nat.min_eq_left hi]
    have := hs _ _ _ σ H v H' (getElem?_split hx) p (by rw [hlen]; exact hy)
    rw [← take_snoc hx] at this
    exact this
  · have e : i = ys.length := by omega
    subst e
    rw [List.take_length] at p
    exact .inl ⟨R.stop _ H (Nat.le_refl _) q, hd σ H p⟩
theorem lc_runs {tt : TT} {te : TE} {vs : List Nat} {H1 : Hp} {D : Addr} {Qd : Hp → Prop} (R : Runs J ys G it) (Pv : List α → Hp → Prop) (h0 : Pv [] (upd H1 D (.lst []))) (hl : ∀ pre post H, ys = pre ++ post → Pv pre H → G H)
    (hs : ∀ pre x post H v H', ys = pre ++ x :: post → Pv pre H → it pre.length x H v H' → g v (wipe σ vs) H' fun σ2 H2 => wipe σ2 vs = wipe σ vs ∧ tt σ2 H2 fun b H3 =>
      if b = true then te σ2 H3 fun y H4 => ∃ acc, H4 D = some (.lst acc) ∧ acc.length < sizeLine ∧ Pv (pre ++ [x]) (upd H4 D (.lst (acc ++ [y]))) else Pv (pre ++ [x]) H3) (hd : ∀ H, Pv ys H → Qd H) :
    ∃ W : Nat → Nat → Hp → Prop, (∃ m, W 0 m (upd H1 D (.lst []))) ∧ ∀ i m H, W i m H →
      (J.stop i H ∧ Qd H) ∨ (J.go i H ∧ ∃ Nx : Hp → Prop, (∀ H', Nx H' → ∃ m', m' < m ∧ W (i + 1) m' H') ∧ ∀ x H', J.yld i H x H' → g x (wipe σ vs) H' fun σ2 H2 => wipe σ2 vs = wipe σ vs ∧ tt σ2 H2 fun b H3 =>
        if b = true then te σ2 H3 fun y H4 => ∃ acc, H4 D = some (.lst acc) ∧ acc.length < sizeLine ∧ Nx (upd H4 D (.lst (acc ++ [y]))) else Nx H3) := by
  refine ⟨fun i m H => m = ys.length - i ∧ i ≤ ys.length ∧ Pv (ys.take i) H, ⟨ys.length, by simp, Nat.zero_le _, h0⟩, ?_⟩
  rintro i m H ⟨rfl, hi, p⟩
  have q := hl _ (ys.drop i) H (List.take_append_drop i ys).symm p
  by_cases hlt : i < ys.length
  · have hx : ys[i]? = some ys[i] := List.getElem?_eq_getElem hlt
    refine .inr ⟨R.go i _ H hx q, Pv (ys.take (i + 1)), fun H' p' => ⟨ys.length - (i + 1), by omega, rfl, hlt, p'⟩, fun v H' y => ?_⟩
    have hy := R.yld i _ H v H' hx q y
    have hlen : (ys.take i).length = i := by rw [List.length_take, Nat.min_eq_left hi]
    have := hs _ _ _ H v H' (getElem?_split hx) p (by rw [hlen]; exact hy)
    rw [← take_snoc hx] at this
    exact this
  · have e : i = ys.length := by omega
    subst e
    rw [List.take_length] at p
    exact .inl ⟨R.stop _ H (Nat.le_refl _) q, hd H p⟩
end
/-! what is walked -/
section
variable {K : PySem.W.Frag} {a b d : Addr} {α : Type} {f : α → V} {ys : List α}
theorem runs_list (f : α → V) (ys : List α) : Runs (Itl K a) ys (fun H => SqL K H a (ys.map f)) (fun _ x H v H' => v = f x ∧ H' = H) where
  go i x H hx q := ⟨_, f x, q, by rw [List.getElem?_map, hx]; rfl⟩
  stop i H hi q := ⟨_, q, by rw [List.length_map]; exact hi⟩
  yld i x H v H' hx q y := by
    obtain ⟨rfl, y⟩ := y
    have := y _ q
    rw [List.getElem?_map, hx] at this
    exact ⟨(Option.some.inj this).symm, rfl⟩
theorem runs_tup (f : α → V) (ys : List α) : Runs (Itt K a) ys (fun H => SqT K H a (ys.map f)) (fun _ x H v H' => v = f x ∧ H' = H) where
  go i x H hx q := ⟨_, f x, q, by rw [List.getElem?_map, hx]; rfl⟩
  stop i H hi q := ⟨_, q, by rw [List.length_map]; exact hi⟩
  yld i x H v H' hx q y := by
    obtain ⟨rfl, y⟩ := y
    have := y _ q
    rw [List.getElem?_map, hx] at this
    exact ⟨(Option.some.inj this).symm, rfl⟩
theorem runs_rng (lo : Int) (n : Nat) : Runs (Itr lo n) (List.range n) (fun _ => True) (fun i x H v H' => v = .int (lo + x) ∧ x = i ∧ i < n ∧ H' = H) where
  go i x H hx q := by
    obtain ⟨h, _⟩ := List.getElem?_eq_some_iff.mp hx
    rw [List.length_range] at h
    exact h
  stop i H hi q := by rw [List.length_range] at hi; exact hi
  yld i x H v H' hx q y := by
    obtain ⟨h, e⟩ := List.getElem?_eq_some_iff.mp hx
    rw [List.length_range] at h
    rw [List.getElem_range] at e
    subst e
    obtain ⟨rfl, rfl⟩ := y
    exact ⟨rfl, rfl, h, rfl⟩
theorem runs_enum (f : α → V) (ys : List α) : Runs (Ite K a) ys (fun H => SqL K H a (ys.map f)) (fun i x H v H' => ∃ T, v = .ref T ∧ H T = none ∧ H' = upd H T (.tup [.int (i : Nat), f x])) where
  go i x H hx q := ⟨_, f x, q, by rw [List.getElem?_map, hx]; rfl⟩
  stop i H hi q := ⟨_, q, by rw [List.length_map]; exact hi⟩
  yld i x H v H' hx q y := by
    obtain ⟨T, z, rfl, hT, rfl, y⟩ := y
    have := y _ q
    rw [List.getElem?_map, hx] at this
    cases this
    exact ⟨T, rfl, hT, rfl⟩
theorem runs_str (z : Str) : Runs (Its z) z.cps.toList (fun _ => True) (fun _ c H v H' => v = .str ⟨#[c]⟩ ∧ H' = H) where
  go i x H hx q := by
    have := (List.getElem?_eq_some_iff.mp hx).1
    rw [Array.length_toList] at this
    exact this
  stop i H hi q := by rw [Array.length_toList] at hi; exact hi
  yld i x H v H' hx q y := by
    obtain ⟨rfl, c, e, rfl⟩ := y
    rw [← Array.getElem?_toList, hx] at e
    cases e
    exact ⟨rfl, rfl⟩
end
end My

end

section
/-! ### dicts of ints to True; repr of an empty dict; classes that may raise when made -/
namespace My
open PySem PySem.Spec PyProof.Rows L2
section
variable {X : Cx}
/-! a class that may raise when made -/
structure Mx (P : Program) (w : World) (K : PySem.W.Frag) (mg : Str → Option Value) (base : Heap) (CX : CXT) (x : Str) (ps : List Str) (k : Nat) (sp : Sp) (dvs : List V) : Prop where
  ex : ∃ f fd ds, Mk K (He.ga K x) f ∧ FnOk P w K mg base CX k f fd ps sp ∧ Binds K fd ps ds ∧ Vals dvs ds
  g : mg x = some (.ref (He.ga K x))
variable {CX : CXT} {k : Nat} {ps : List Str} {sp : Sp} {dvs : List V} {E : XK} {x : Str} {p pos : Pos} {e : Expr} {es : List Expr} {t : TA}
theorem pe_mx (M : Mx X.prog X.w X.K X.mg X.base CX x ps k sp dvs) (hr : Room (k + 1) X.A) (hg : Gl X x) (hx : Passes CX X E)
    (ha : PA X (e :: es) t) (hdb : (x == ("__debug__" : Str)) = false := by decide) (he : starEach (e :: es) X.env = (false, eval e X.env) :: starEach es X.env := by rfl) (hpl : (backTo pos (starEach es X.env)).any (·.1) = false := by rfl) :
    PE X (.Call (.Name x p) (e :: es) [] pos) (tMake (He.ga X.K x) sp dvs E t) := by
  obtain ⟨f, fd, ds, m, F, b, d⟩ := M.ex
  exact pe_make m F hr hg M.g b d hx ha hdb he hpl
end
end My

end

section
/-! ### more steps: raising, tuples walked, isinstance read by kinds -/
namespace My
open PySem PySem.Spec PyProof.Rows L2
section
variable {σ : L2.St} {H : Hp} {Q : VK} {nx bk ct : L2.St → Hp → Prop} {rt : VK} {te to : TE} {ta : TA} {K : PySem.W.Frag} {x f : Str} {v : V}
theorem x_nF {A B : Prop} (h : A) : if (!false) = true then A else B := iteT h
theorem x_nT {A B : Prop} (h : B) : if (!true) = true then A else B := iteF h
theorem x_itup {R} (h : te σ H fun x H1 => ∃ a, x = .ref a ∧ (∃ xs, SqT K H1 a xs) ∧ R (Itt K a) H1) : iTup K te σ H R := h
theorem x_itupE {a : Addr} {xs : List V} {R : Addr → Prop} (s : SqT K H a xs) (h : R a) : ∃ b, V.ref a = .ref b ∧ (∃ xs, SqT K H b xs) ∧ R b := ⟨a, rfl, ⟨xs, s⟩, h⟩
end
section
variable {K : PySem.W.Frag} {H H' : Hp}
theorem tyx_same {x : V} {t : Value} (h : TyX K H x t) (s : Same H H') : TyX K H' x t := by
  cases h with
  | base b =>
    refine .base ?_
    cases b with
    | non => exact .non
    | bl b => exact .bl b
    | int b => exact .int b
    | str b => exact .str b
    | flt b => exact .flt b
    | lst e => exact .lst (s _ _ e)
    | frz e => exact .frz (s _ _ e)
    | tup e => exact .tup (s _ _ e)
    | dK e => exact .dK (s _ _ e)
    | dT e => exact .dT (s _ _ e)
    | ins e cl ha hn htk hm => exact .ins (s _ _ e) cl ha hn htk hm
  | byt b => exact .byt b
  | set e => exact .set (s _ _ e)
  | kList e c => exact .kList e c
  | kTuple e c => exact .kTuple e c
  | kDict e c => exact .kDict e c
  | fTuple e => exact .fTuple (s _ _ e)
  | fDict e => exact .fDict (s _ _ e)
theorem sql_ty {a : Addr} {xs : List V} (h : SqL K H a xs) : TyX K H (.ref a) (.type "list") := by
  rcases h with (e | ⟨o, e⟩) | ⟨o, its, n, e, c, _⟩
  · exact .base (.lst e)
  · exact .base (.frz e)
  · exact .kList e c
theorem sqt_ty {a : Addr} {xs : List V} (h : SqT K H a xs) : TyX K H (.ref a) (.type "tuple") := by
  rcases h with (e | ⟨o, e⟩) | ⟨o, its, n, e, c, _⟩
  · exact .base (.tup e)
  · exact .fTuple e
  · exact .kTuple e c
theorem pe_fldK {X : Cx} {K : PySem.W.Frag} {e : Expr} {ta : TE} {f : Str} {pos : Pos} (hK : X.K = K) (he : PE X e ta) (hb : attributeBase e f X.env (eval e X.env) = eval e X.env) : PE X (.Attribute e f pos) (tFld K ta f) := by
  subst hK
  exact pe_fld he hb
end
end My

end

section
/-! ### own exceptions over any built-in base, with an __init__ of their own -/
namespace My
open PySem PySem.Spec PyProof.Rows L2
/-! the readings -/
end My

end

section
/-! ### C(k = v, ..): the same with keywords -/

end

section
/-! ### exceptions as values: C(e, ..), C(), C(k = e, ..) -/

end

section
/-! ### exceptions as values: their fields, isinstance -/

end

section
/-! ### classes of exceptions as their callers see them; the steps of a making -/

end

section
/-! ### except clauses: a tuple of classes, several clauses with names; the caught exception may get out of its clause -/
namespace My
open PySem PySem.Spec PyProof.Rows L2
/-! ### such an exception looked at -/
/-! ### raise of a tracked exception -/
end My

end

section
/-! ### o.m(k = v, ..) -/
namespace My
open PySem PySem.Spec PyProof.Rows L2
/-- the reading: gV puts the object and the keywords' values (and what lacks) in the parameters' order -/
def tMethK (C : Addr) (m : Str) (n : Nat) (sp : Sp) (gV : List V → List V → List V) (E : XK) (ta : TE) (tk : TA) : TE := fun σ H Q => ta σ H fun x H1 => ∃ a dx fs, x = .ref a ∧ H1 a = some (.ins C dx fs) ∧ fs.lookup m = none ∧
  tk σ H1 fun zs H2 => zs.length = n ∧ sp (gV [.ref a] zs) H2 Q E
/-- such a method, called with the keywords ks (none: all lack) -/
structure CmK (P : Program) (w : World) (K : PySem.W.Frag) (mg : Str → Option Value) (base : Heap) (CX : CXT) (x m : Str) (ps : List Str) (k : Nat) (sp : Sp) (ks : List Str) (gV : List V → List V → List V) : Prop where
  ex : ∃ fd g, FnOk P w K mg base CX k (He.ma K (He.ga K x) m) fd ps sp ∧ KBn K fd ps 1 ks g gV
  me : Meth K (He.ga K x) m (He.ma K (He.ga K x) m)
  cl : Cls K (He.ga K x)
section
variable {X : Cx} {CX : CXT} {k : Nat} {ps ks : List Str} {sp : Sp} {E : XK} {x m : Str} {pos apos : Pos} {o : Expr} {kws : List Keyword} {tk : TA} {ta : TE} {gV : List V → List V → List V}
theorem rrK {a : Addr} : RelV (.ref a) (.ref a) := rfl
theorem run_kw {pins : List (Addr × Obj)} {σ : L2.St} {H : Hp} {s : Shared} {f : Addr} {fd : FuncData} {us ws : List Value} {kw : List (Str × Value)} {vs : List V} {Q : VK} (F : FnOk X.prog X.w X.K X.mg X.base CX k f fd ps sp) (hr : Room k X.A) (hx : Passes CX X E)
    (I : Inv X pins σ H s) (b : BindsTo s fd ⟨us, kw⟩ (ps.zip ws)) (r : Vals vs ws) (h : sp vs H Q E) : wpAny (model X.prog X.w) X.A (call (.ref f) us kw) (EP X pins σ Q) X.xe s := by
  refine wpAny_call (codeAny_mono (F.run X.A X.stack s H ⟨us, kw⟩ ws vs Q E hr I.env0 b r h) fun r s' hq => ?_)
  match r, hq with
  | .error e, hq => exact hx pins σ H s e s' I hq
  | .ok (.ret u), hq => exact I.after hq
  | .ok .next, hq => exact False.elim hq
  | .ok .brk, hq => exact False.elim hq
  | .ok .cont, hq => exact False.elim hq
theorem pe_cmK {pl : Sem Bool} (C : CmK X.prog X.w X.K X.mg X.base CX x m ps k sp ks gV) (hr : Room k X.A) (hx : Passes CX X E) (he : PE X o ta) (hkw : PK X kws tk)
    (hall : (backToKw pos (keywordEach kws X.env)).all (·.1.isSome) = true := by rfl) (hks : (backToKw pos (keywordEach kws X.env)).filterMap (·.1) = ks := by rfl)
    (hpl : ((backTo pos (starEach [] X.env)).any (·.1) || (backToKw pos (keywordEach kws X.env)).any (·.1.isNone)) = false := by rfl)
    (ht : eval (.Call (.Attribute o m apos) [] kws pos) X.env = (do
      let ov ← eval o X.env
      standAt apos.atName
      let (f, first) ← holding [ov] (getMethod ov m pl)
      callWith pos f first (backTo pos (starEach [] X.env)) (backToKw pos (keywordEach kws X.env))) := by rfl) :
    PE X (.Call (.Attribute o m apos) [] kws pos) (tMethK (He.ga X.K x) m ks.length sp gV E ta tk) := by
  obtain ⟨fd, g, F, kb⟩ := C.ex
  refine ⟨fun pins s σ H Q I h => ?_⟩
  refine PySem.W.methodCall_KW (pl := pl) (thn (he.run pins s σ H _ I h) fun u s1 ⟨y, H1, I1, rx, a, dx, fs, ex, ea, l, q⟩ => ?_) ht
  subst ex
  obtain rfl : u = Value.ref a := rx
  refine getmeth_ok I1 ea C.cl C.me l ?_
  refine PySem.W.callWith_KW0 (first := [.ref a]) (h₀ := X.base) I.ok.mod.kin C.me.kp hall (thn (hkw.run pos pins s1 σ H1 _ I1 q) fun ws s2 ⟨zs, H2, I2, rz, l2, q2⟩ => ⟨I2.kIn, ?_⟩) hpl
  rw [hks]
  exact run_kw (us := [.ref a]) F hr hx I2 (kb.to s2 [.ref a] ws I2.kIn rfl (rz.length.symm.trans l2)) (kb.rel (vs := [V.ref a]) (.cons rrK .nil) rz) q2
/-- o.m(): all lack -/
theorem pe_cmK0 {pl : Sem Bool} (C : CmK X.prog X.w X.K X.mg X.base CX x m ps k sp [] gV) (hr : Room k X.A) (hx : Passes CX X E) (he : PE X o ta)
    (ht : eval (.Call (.Attribute o m apos) [] [] pos) X.env = (do
      let ov ← eval o X.env
      standAt apos.atName
      let (f, first) ← holding [ov] (getMethod ov m pl)
      callWith pos f first (backTo pos (starEach [] X.env)) (backToKw pos (keywordEach [] X.env))) := by rfl) :
    PE X (.Call (.Attribute o m apos) [] [] pos) (tMethK (He.ga X.K x) m 0 sp gV E ta tNil) := by
  obtain ⟨fd, g, F, kb⟩ := C.ex
  refine ⟨fun pins s σ H Q I h => ?_⟩
  refine PySem.W.methodCall_KW (pl := pl) (thn (he.run pins s σ H _ I h) fun u s1 ⟨y, H1, I1, rx, a, dx, fs, ex, ea, l, q⟩ => ?_) ht
  subst ex
  obtain rfl : u = Value.ref a := rx
  refine getmeth_ok I1 ea C.cl C.me l ?_
  have q2 : ([] : List V).length = 0 ∧ sp (gV [.ref a] []) H1 Q E := q
  exact PySem.W.callWith_K0 (first := [.ref a]) I1.kIn C.me.kp (run_kw (us := [.ref a]) F hr hx I1 (kb.to s1 [.ref a] [] I1.kIn rfl rfl) (kb.rel (vs := [V.ref a]) (.cons rrK .nil) .nil) q2.2)
end
end My

end

section
namespace Asl
open PySem
open Sem (wp)

/-- a frame of a def alone -/
def rfr : Frame → Bool
  | .ret .. => true
  | .gen .. => false
def dull : Frame → Frame
  | .gen _ _ l c p => .ret (fun _ => .unsupported "asleep") none false l c p []
  | f => f
theorem dull_rfr (f : Frame) : rfr (dull f) = true := by cases f <;> rfl
theorem dull_where (f : Frame) : (dull f).where_ = f.where_ := by cases f <;> rfl
/-- a sleeping generator that nobody can wake -/
def trap : GenState → GenState
  | .suspended _ l c p fs cl => .suspended (fun _ => .unsupported "asleep") l c p (fs.map dull) cl
  | x => x
def slp : GenState → Bool
  | .suspended .. => true
  | _ => false
theorem trap_seen (x : GenState) : (trap x).seen = x.seen := by
  cases x with
  | suspended k l c p fs cl =>
    show (GenStatus.suspended, some ((c, p) :: (fs.map dull).map Frame.where_)) = (GenStatus.suspended, some ((c, p) :: fs.map Frame.where_))
    rw [List.map_map, show (Frame.where_ ∘ dull) = Frame.where_ from funext dull_where]
  | _ => rfl
theorem trap_bare (x : GenState) : (trap x).bare = x.bare := by cases x <;> rfl
theorem trap_of_not {x : GenState} (h : slp x = false) : trap x = x := by
  cases x with
  | suspended => cases h
  | _ => rfl

theorem no_unsup {M : Model} {Γ : Ctx} {p : Pos} {w : String} {fs : List Frame} {s s' : Shared} {e : End} (h : Runs M Γ p (.unsupported w) fs s e s') : False := by
  cases h with
  | segRet h1 _ => cases h1
  | segGen h1 _ => cases h1
  | segSuspOut _ h1 => cases h1
  | segSuspGen _ h1 _ _ => cases h1

/-- the table with the sleepers of G as they were -/
def mend (G a : Array GenState) : Array GenState := a.mapIdx fun j x => match G[j]? with
  | some y => if slp y = true then y else x
  | none => x
abbrev mendS (G : Array GenState) (s : Shared) : Shared := { s with gens := mend G s.gens }
/-- all sleepers of G are trapped in a -/
structure Tr (G a : Array GenState) : Prop where
  sz : G.size ≤ a.size
  tr : ∀ (j : Nat) (y : GenState), G[j]? = some y → slp y = true → a[j]? = some (trap y)
  ng : ∀ (j : Nat) (k : Resume → Sem Fin) (l : List Value) (c : Code) (p : Pos) (fs : List Frame) (cl : Bool), a[j]? = some (.suspended k l c p fs cl) → ∀ f ∈ fs, rfr f = true

theorem mend_get (G a : Array GenState) (j : Nat) : (mend G a)[j]? = (a[j]?).map fun x => match G[j]? with
  | some y => if slp y = true then y else x
  | none => x := by
  unfold mend
  rw [Array.getElem?_mapIdx]
theorem mend_size (G a : Array GenState) : (mend G a).size = a.size := by unfold mend; rw [Array.size_mapIdx]
theorem mend_out {G a : Array GenState} {j : Nat} (h : ∀ y : GenState, G[j]? = some y → slp y = false) : (mend G a)[j]? = a[j]? := by
  rw [mend_get]
  cases hg : G[j]? with
  | none => cases a[j]? <;> rfl
  | some y =>
    have := h y hg
    simp [this]
theorem mend_in {G a : Array GenState} (t : Tr G a) {j : Nat} {y : GenState} (h : G[j]? = some y) (hy : slp y = true) : (mend G a)[j]? = some y := by
  rw [mend_get, t.tr j y h hy, h]
  simp [hy]
theorem mend_push {G a : Array GenState} (hs : G.size ≤ a.size) (x : GenState) : mend G (a.push x) = (mend G a).push x := by
  apply Array.ext'
  apply List.ext_getElem?
  intro i
  rw [Array.getElem?_toList, Array.getElem?_toList, mend_get, Array.getElem?_push, Array.getElem?_push, mend_size]
  by_cases h : i = a.size
  · subst h
    rw [if_pos rfl, if_pos rfl, Array.getElem?_eq_none hs]; rfl
  · rw [if_neg h, if_neg h, mend_get]
theorem mend_set {G a : Array GenState} {g : Nat} (x : GenState) (h : ∀ y, G[g]? = some y → slp y = false) : mend G (a.setIfInBounds g x) = (mend G a).setIfInBounds g x := by
  apply Array.ext'
  apply List.ext_getElem?
  intro i
  rw [Array.getElem?_toList, Array.getElem?_toList, mend_get, Array.getElem?_setIfInBounds, Array.getElem?_setIfInBounds, mend_size]
  by_cases hi : g = i
  · subst hi
    rw [if_pos rfl, if_pos rfl]
    by_cases hl : g < a.size
    · rw [if_pos hl]
      cases hg : G[g]? with
      | none => rfl
      | some y => simp [h y hg]
    · rw [if_neg hl]; rfl
  · rw [if_neg hi, if_neg hi, mend_get]

theorem Tr.out {G a : Array GenState} (t : Tr G a) {g : Nat} {x : GenState} (h : a[g]? = some x) (hx : ∀ y, trap y = x → slp y = false) : ∀ y, G[g]? = some y → slp y = false := fun y hy => by
  cases hs : slp y with
  | false => rfl
  | true =>
    have := t.tr g y hy hs
    rw [h] at this
    have := hx y (Option.some.inj this).symm
    rw [hs] at this; exact this
theorem Tr.set {G a : Array GenState} (t : Tr G a) {g : Nat} {x : GenState} (h : ∀ y, G[g]? = some y → slp y = false)
    (hx : ∀ (k : Resume → Sem Fin) (l : List Value) (c : Code) (p : Pos) (fs : List Frame) (cl : Bool), x = .suspended k l c p fs cl → ∀ f ∈ fs, rfr f = true) : Tr G (a.setIfInBounds g x) := by
  refine ⟨by rw [Array.size_setIfInBounds]; exact t.sz, fun j y hj hy => ?_, fun j k l c p fs cl e => ?_⟩
  · rw [Array.getElem?_setIfInBounds]
    by_cases z : g = j
    · subst z
      rw [h y hj] at hy; cases hy
    · rw [if_neg z]; exact t.tr j y hj hy
  · rw [Array.getElem?_setIfInBounds] at e
    by_cases z : g = j
    · subst z
      rw [if_pos rfl] at e
      by_cases hl : g < a.size
      · rw [if_pos hl] at e
        exact hx k l c p fs cl (Option.some.inj e)
      · rw [if_neg hl] at e; cases e
    · rw [if_neg z] at e; exact t.ng j k l c p fs cl e
theorem Tr.push {G a : Array GenState} (t : Tr G a) (c : Code) : Tr G (a.push (.fresh c)) := by
  refine ⟨by rw [Array.size_push]; exact Nat.le_succ_of_le t.sz, fun j y hj hy => ?_, fun j k l c' p fs cl e => ?_⟩
  · rw [Array.getElem?_push]
    have hlt : j < a.size := Nat.lt_of_lt_of_le (Array.getElem?_eq_some_iff.mp hj).1 t.sz
    rw [if_neg (Nat.ne_of_lt hlt)]; exact t.tr j y hj hy
  · rw [Array.getElem?_push] at e
    by_cases z : j = a.size
    · rw [if_pos z] at e; cases e
    · rw [if_neg z] at e; exact t.ng j k l c' p fs cl e

def endOk : End → Prop
  | .ret _ => True
  | .susp _ _ _ _ _ _ fs => ∀ f ∈ fs, rfr f = true
theorem split_none : ∀ {fs : List Frame} {x}, (∀ f ∈ fs, rfr f = true) → splitAtGen fs = some x → False
  | [], _, _, h => by cases h
  | .gen .. :: _, _, hf, _ => by
    have := hf _ List.mem_cons_self
    cases this
  | .ret .. :: r, x, hf, h => by
    unfold splitAtGen at h
    cases hr : splitAtGen r with
    | none => rw [hr] at h; cases h
    | some y => exact split_none (fun f hm => hf f (List.mem_cons_of_mem _ hm)) hr
theorem setGen_mend {G : Array GenState} {s : Shared} {g : Nat} (x : GenState) (h : ∀ y, G[g]? = some y → slp y = false) : mendS G (s.setGen g x) = (mendS G s).setGen g x := by
  show ({ s with gens := mend G (s.gens.setIfInBounds g x) } : Shared) = { s with gens := (mend G s.gens).setIfInBounds g x }
  rw [mend_set x h]
theorem gs_frames {e : End} (h : endOk e) : ∀ (k : Resume → Sem Fin) (l : List Value) (c : Code) (p : Pos) (fs : List Frame) (cl : Bool), e.genState = .suspended k l c p fs cl → ∀ f ∈ fs, rfr f = true := by
  intro k l c p fs cl hE
  cases e with
  | ret r => cases hE
  | susp v g l0 k0 c0 p0 fs0 =>
    simp only [End.genState, GenState.suspended.injEq] at hE
    obtain ⟨_, _, _, _, rfl, _⟩ := hE
    exact h

/-- THE RULE: who can be run while the sleepers are trapped, runs alike beside the sleepers, and leaves them asleep -/
theorem run_mend {M : Model} {G : Array GenState} {Γ : Ctx} {p : Pos} {t : Sem Fin} {fs : List Frame} {s s' : Shared} {e : End} (h : Runs M Γ p t fs s e s') :
    (∀ f ∈ fs, rfr f = true) → Tr G s.gens → Runs M Γ p t fs (mendS G s) e (mendS G s') ∧ Tr G s'.gens ∧ endOk e := by
  induction h with
  | done => exact fun _ t => ⟨.done, t, trivial⟩
  | raise => exact fun _ t => ⟨.raise, t, trivial⟩
  | again hq _ ih => exact fun f t => ⟨.again hq (ih f t).1, (ih f t).2⟩
  | rule _ ih => exact fun f t => ⟨.rule (ih f t).1, (ih f t).2⟩
  | «at» _ ih => exact fun f t => ⟨.at (ih f t).1, (ih f t).2⟩
  | load ho _ ih => exact fun f t => ⟨.load ho (ih f t).1, (ih f t).2⟩
  | update ho _ ih => exact fun f t => ⟨.update ho (ih f t).1, (ih f t).2⟩
  | loadIfAlive _ ih => exact fun f t => ⟨.loadIfAlive (ih f t).1, (ih f t).2⟩
  | point _ ih => exact fun f t => ⟨.point (ih f t).1, (ih f t).2⟩
  | alloc _ ih => exact fun f t => ⟨.alloc (ih f t).1, (ih f t).2⟩
  | fresh _ ih => exact fun f t => ⟨.fresh (ih f t).1, (ih f t).2⟩
  | ask _ ih => exact fun f t => ⟨.ask (ih f t).1, (ih f t).2⟩
  | choose hn _ ih => exact fun f t => ⟨.choose hn (ih f t).1, (ih f t).2⟩
  | os _ ih => exact fun f t => ⟨.os (ih f t).1, (ih f t).2⟩
  | handled _ ih => exact fun f t => ⟨.handled (ih f t).1, (ih f t).2⟩
  | @genState g st Γ p k s e s' hg _ ih =>
    intro f t
    refine ⟨?_, (ih f t).2⟩
    cases hG : G[g]? with
    | none =>
      refine .genState (st := st) ?_ (ih f t).1
      exact (mend_out (a := s.gens) fun y hy => by rw [hG] at hy; cases hy).trans hg
    | some y =>
      cases hs : slp y with
      | false =>
        refine .genState (st := st) ?_ (ih f t).1
        exact (mend_out (a := s.gens) fun y' hy => by rw [hG] at hy; cases hy; exact hs).trans hg
      | true =>
        have e1 := t.tr g y hG hs
        rw [hg] at e1
        have e2 : st = trap y := Option.some.inj e1
        refine .genState (st := y) (mend_in t hG hs) ?_
        rw [← trap_seen y, ← e2]
        exact (ih f t).1
  | stack _ ih => exact fun f t => ⟨.stack (ih f t).1, (ih f t).2⟩
  | thread _ ih => exact fun f t => ⟨.thread (ih f t).1, (ih f t).2⟩
  | @newGen Γ p k s e s' c _ ih =>
    intro f t
    have t1 := t.push c
    obtain ⟨r, q⟩ := ih f t1
    refine ⟨.newGen ?_, q⟩
    have e1 : (mendS G s).gens.size = s.gens.size := mend_size ..
    rw [e1]
    have e2 : mendS G { s with gens := s.gens.push (.fresh c) } = { mendS G s with gens := (mendS G s).gens.push (.fresh c) } := by
      show ({ s with gens := mend G (s.gens.push (.fresh c)) } : Shared) = { s with gens := (mend G s.gens).push (.fresh c) }
      rw [mend_push t.sz]
    rw [← e2]
    exact r
  | call _ _ ih1 ih2 =>
    intro f t
    obtain ⟨r1, t1, _⟩ := ih1 (by simp) t
    obtain ⟨r2, q⟩ := ih2 f t1
    exact ⟨.call r1 r2, q⟩
  | callSusp _ ih =>
    intro f t
    obtain ⟨r1, t1, q⟩ := ih (by simp) t
    refine ⟨.callSusp r1, t1, fun x hx => ?_⟩
    rcases List.mem_append.mp hx with hx | hx
    · exact q x hx
    · rw [List.mem_singleton.mp hx]; rfl
  | yield => exact fun f t => ⟨.yield, t, fun x hx => by cases hx⟩
  | @resumeFresh Γ p g l k s c e₁ s₁ e s' hg _ hq _ ih1 ih2 =>
    intro f t
    have o := t.out hg fun y hy => by cases y <;> first | rfl | cases hy
    obtain ⟨r1, t1, q1⟩ := ih1 (by simp) (t.set o fun _ _ _ _ _ _ z => by cases z)
    obtain ⟨r2, q⟩ := ih2 f (t1.set o (gs_frames q1))
    rw [setGen_mend _ o] at r1 r2
    exact ⟨.resumeFresh ((mend_out o).trans hg) r1 hq r2, q⟩
  | @resumeSuspended Γ p g r l k s k₀ l₀ c₀ p₀ fs cl e₁ s₁ e s' hg h1 hq _ ih1 ih2 =>
    intro f t
    have o : ∀ y, G[g]? = some y → slp y = false := fun y hy => by
      cases hs : slp y with
      | false => rfl
      | true =>
        have e1 := t.tr g y hy hs
        rw [hg] at e1
        cases y with
        | suspended k2 l2 c2 p2 fs2 cl2 =>
          simp only [trap, Option.some.injEq, GenState.suspended.injEq] at e1
          obtain ⟨rfl, _⟩ := e1
          exact (no_unsup h1).elim
        | _ => cases hs
    obtain ⟨r1, t1, q1⟩ := ih1 (t.ng g _ _ _ _ _ _ hg) (t.set o fun _ _ _ _ _ _ z => by cases z)
    obtain ⟨r2, q⟩ := ih2 f (t1.set o (gs_frames q1))
    rw [setGen_mend _ o] at r1 r2
    exact ⟨.resumeSuspended ((mend_out o).trans hg) r1 hq r2, q⟩
  | resumeJustStarted hg hv _ ih =>
    intro f t
    have o := t.out hg fun y hy => by cases y <;> first | rfl | cases hy
    exact ⟨.resumeJustStarted ((mend_out o).trans hg) hv (ih f t).1, (ih f t).2⟩
  | resumeThrowFresh hg _ ih =>
    intro f t
    have o := t.out hg fun y hy => by cases y <;> first | rfl | cases hy
    obtain ⟨r, q⟩ := ih f (t.set o fun _ _ _ _ _ _ z => by cases z)
    rw [setGen_mend _ o] at r
    exact ⟨.resumeThrowFresh ((mend_out o).trans hg) r, q⟩
  | resumeRunning hg _ ih =>
    intro f t
    have o := t.out hg fun y hy => by cases y <;> first | rfl | cases hy
    exact ⟨.resumeRunning ((mend_out o).trans hg) (ih f t).1, (ih f t).2⟩
  | resumeFinished hg _ ih =>
    intro f t
    have o := t.out hg fun y hy => by cases y <;> first | rfl | cases hy
    exact ⟨.resumeFinished ((mend_out o).trans hg) (ih f t).1, (ih f t).2⟩
  | segRet _ _ ih1 ih2 =>
    intro f t
    obtain ⟨r1, t1, _⟩ := ih1 (by simp) t
    obtain ⟨r2, q⟩ := ih2 (fun x hx => f x (List.mem_cons_of_mem _ hx)) t1
    exact ⟨.segRet r1 r2, q⟩
  | segGen _ _ _ _ =>
    intro f t
    have := f _ List.mem_cons_self
    cases this
  | segSuspOut hn _ ih =>
    intro f t
    obtain ⟨r1, t1, q⟩ := ih (by simp) t
    refine ⟨.segSuspOut hn r1, t1, fun x hx => ?_⟩
    rcases List.mem_append.mp hx with hx | hx
    · exact q x hx
    · exact f x hx
  | segSuspGen hs _ _ _ _ _ => exact fun f t => (split_none f hs).elim
theorem wakes_mend {M : Model} {G : Array GenState} {Γ : Ctx} {p : Pos} {g : Nat} {r : Resume} {s s' : Shared} {res : GenResult} (h : Wakes M Γ p g r s res s') (t : Tr G s.gens) :
    Wakes M Γ p g r (mendS G s) res (mendS G s') ∧ Tr G s'.gens := by
  have o : ∀ y, G[g]? = some y → slp y = false := fun y hy => by
    cases hs : slp y with
    | false => rfl
    | true =>
      have e1 := t.tr g y hy hs
      unfold Wakes at h
      rw [e1] at h
      cases y with
      | suspended k2 l2 c2 p2 fs2 cl2 =>
        obtain ⟨e₁, s₁, hr, _⟩ := h
        exact (no_unsup hr).elim
      | _ => cases hs
  have eg : (mendS G s).gens[g]? = s.gens[g]? := mend_out o
  unfold Wakes at h ⊢
  rw [eg]
  cases hg : s.gens[g]? with
  | none => rw [hg] at h; exact h.elim
  | some x =>
    rw [hg] at h
    have wake : ∀ {Γ' : Ctx} {p' : Pos} {tt : Sem Fin} {fs : List Frame} {e₁ : End} {s₁ : Shared}, (∀ f ∈ fs, rfr f = true) → Runs M Γ' p' tt fs (s.setGen g .running) e₁ s₁ →
        Runs M Γ' p' tt fs ((mendS G s).setGen g .running) e₁ (mendS G s₁) ∧ Tr G (s₁.setGen g e₁.genState).gens ∧ mendS G (s₁.setGen g e₁.genState) = (mendS G s₁).setGen g e₁.genState := fun {Γ' p' tt fs e₁ s₁} hf hr => by
      obtain ⟨r1, t1, q1⟩ := run_mend (G := G) hr hf (t.set o fun _ _ _ _ _ _ z => by cases z)
      rw [setGen_mend _ o] at r1
      exact ⟨r1, t1.set o (gs_frames q1), setGen_mend _ o⟩
    cases x with
    | fresh c =>
      cases r with
      | send v =>
        by_cases hv : v = .none
        · subst hv
          obtain ⟨e₁, s₁, hr, hq, rfl, rfl⟩ := h
          obtain ⟨r1, t1, e1⟩ := wake (by simp) hr
          exact ⟨⟨e₁, _, r1, hq, rfl, e1⟩, t1⟩
        · have z : res = .justStarted ∧ s' = s := by cases v <;> first | exact absurd rfl hv | exact h
          obtain ⟨rfl, rfl⟩ := z
          refine ⟨?_, t⟩
          cases v <;> first | exact absurd rfl hv | exact ⟨rfl, rfl⟩
      | throw y =>
        obtain ⟨rfl, rfl⟩ := h
        exact ⟨⟨rfl, setGen_mend _ o⟩, t.set o fun _ _ _ _ _ _ z => by cases z⟩
    | suspended k₀ l₀ c₀ p₀ fs cl =>
      obtain ⟨e₁, s₁, hr, hq, rfl, rfl⟩ := h
      obtain ⟨r1, t1, e1⟩ := wake (t.ng g _ _ _ _ _ _ hg) hr
      exact ⟨⟨e₁, _, r1, hq, rfl, e1⟩, t1⟩
    | running => obtain ⟨rfl, rfl⟩ := h; exact ⟨⟨rfl, rfl⟩, t⟩
    | finished => obtain ⟨rfl, rfl⟩ := h; exact ⟨⟨rfl, rfl⟩, t⟩

/-- what is known behind, beside the sleepers -/
abbrev Beside (G : Array GenState) {α : Type} (Q : α → Shared → Prop) : α → Shared → Prop := fun a s' => ∃ s'', s' = mendS G s'' ∧ Tr G s''.gens ∧ Q a s''

theorem wp_mend {α : Type} {M : Model} {Γ : Ctx} {G : Array GenState} (t : Sem α) : ∀ (Q : α → Shared → Prop) (E : Value → Shared → Prop) (p : Pos) (s : Shared), Tr G s.gens → wp M Γ t (fun a _ s' => Q a s') (fun e _ s' => E e s') p s →
    wp M Γ t (fun a _ s' => Beside G Q a s') (fun e _ s' => Beside G E e s') p (mendS G s) := by
  induction t with
  | pure a => exact fun Q E p s t h => ⟨s, rfl, t, h⟩
  | raise e => exact fun Q E p s t h => ⟨s, rfl, t, h⟩
  | unsupported _ => exact fun Q E p s t h => h
  | finish _ => exact fun Q E p s t h => h
  | register _ _ => exact fun Q E p s t h => h
  | yield _ _ _ _ => exact fun Q E p s t h => h
  | fork _ _ => exact fun Q E p s t h => h
  | await _ _ _ _ _ => exact fun Q E p s t h => h
  | rule _ k ih => exact fun Q E p s t h => ih () Q E p s t h
  | «at» p' k ih => exact fun Q E p s t h => ih () Q E p' s t h
  | point _ k ih => exact fun Q E p s t h => ih () Q E p s t h
  | load a _ k ih => exact fun Q E p s t ⟨o, ho, h⟩ => ⟨o, ho, ih o Q E p s t h⟩
  | update a _ f k ih => exact fun Q E p s t h => ⟨h.1, ih () Q E p { s with heap := s.heap.update a f } t h.2⟩
  | loadIfAlive a k ih => exact fun Q E p s t h => ih (s.heap.get? a) Q E p s t h
  | alloc o k ih => exact fun Q E p s t h => ih s.heap.objs.size Q E p { s with heap := s.heap.push o } t h
  | fresh k ih => exact fun Q E p s t h => ih s.toks Q E p { s with toks := s.toks + 1 } t h
  | ask k ih => exact fun Q E p s t h => ih _ Q E p s t h
  | choose src m k ih => exact fun Q E p s t h => ⟨h.1, ih _ Q E p { s with drawn := s.drawn.bump src } t h.2⟩
  | os q _ k ih => exact fun Q E p s t h => ih (Os.step s.os q).2 Q E p { s with os := (Os.step s.os q).1 } t h
  | handled own k ih => exact fun Q E p s t h => ih _ Q E p s t h
  | stack k ih => exact fun Q E p s t h => ih _ Q E p s t h
  | thread k ih => exact fun Q E p s t h => ih _ Q E p s t h
  | call c hd _ _ k ih =>
    intro Q E p s t h
    obtain ⟨r, s', hr, h⟩ := h
    obtain ⟨r1, t1, _⟩ := run_mend (G := G) hr (by simp) t
    exact ⟨r, _, r1, ih r Q E p s' t1 h⟩
  | genState g k ih =>
    intro Q E p s t h
    obtain ⟨st, hg, h⟩ := h
    show ∃ st', (mendS G s).gens[g]? = some st' ∧ _
    cases hG : G[g]? with
    | none => exact ⟨st, (mend_out (a := s.gens) fun y hy => by rw [hG] at hy; cases hy).trans hg, ih st.seen Q E p s t h⟩
    | some y =>
      cases hs : slp y with
      | false => exact ⟨st, (mend_out (a := s.gens) fun y' hy => by rw [hG] at hy; cases hy; exact hs).trans hg, ih st.seen Q E p s t h⟩
      | true =>
        have e1 := t.tr g y hG hs
        rw [hg] at e1
        have e2 : st = trap y := Option.some.inj e1
        refine ⟨y, mend_in t hG hs, ?_⟩
        rw [← trap_seen y, ← e2]
        exact ih st.seen Q E p s t h
  | newGen c k ih =>
    intro Q E p s t h
    have q := ih s.gens.size Q E p { s with gens := s.gens.push (.fresh c) } (t.push c) h
    have e1 : (mendS G s).gens.size = s.gens.size := mend_size ..
    have e2 : mendS G { s with gens := s.gens.push (.fresh c) } = { mendS G s with gens := (mendS G s).gens.push (.fresh c) } := by
      show ({ s with gens := mend G (s.gens.push (.fresh c)) } : Shared) = { s with gens := (mend G s.gens).push (.fresh c) }
      rw [mend_push t.sz]
    rw [e2] at q
    show wp _ _ (k (mendS G s).gens.size) _ _ _ _
    rw [e1]
    exact q
  | resume g r _ k ih =>
    intro Q E p s t h
    obtain ⟨res, s', hw, h⟩ := h
    obtain ⟨w1, t1⟩ := wakes_mend (G := G) hw t
    exact ⟨res, _, w1, ih res Q E p s' t1 h⟩

/-- the state in which all sleepers are trapped -/
abbrev trapS (s : Shared) : Shared := { s with gens := s.gens.map trap }
theorem tr_trap (G : Array GenState) : Tr G (G.map trap) := by
  refine ⟨by rw [Array.size_map]; exact Nat.le_refl _, fun j y hj _ => by rw [Array.getElem?_map, hj]; rfl, fun j k l c p fs cl e => ?_⟩
  rw [Array.getElem?_map] at e
  cases hG : G[j]? with
  | none => rw [hG] at e; cases e
  | some y =>
    rw [hG] at e
    have e : trap y = .suspended k l c p fs cl := Option.some.inj e
    cases y with
    | suspended k2 l2 c2 p2 fs2 cl2 =>
      simp only [trap, GenState.suspended.injEq] at e
      obtain ⟨_, _, _, _, rfl, _⟩ := e
      intro f hf
      obtain ⟨f', _, rfl⟩ := List.mem_map.mp hf
      exact dull_rfr f'
    | _ => cases e
theorem mend_trap (G : Array GenState) : mend G (G.map trap) = G := by
  apply Array.ext'
  apply List.ext_getElem?
  intro i
  rw [Array.getElem?_toList, Array.getElem?_toList, mend_get, Array.getElem?_map]
  cases hG : G[i]? with
  | none => rfl
  | some y =>
    cases hs : slp y with
    | true => simp [hs]
    | false => simp [hs, trap_of_not hs]
theorem mendS_trap (s : Shared) : mendS s.gens (trapS s) = s := by
  show ({ s with gens := mend s.gens (s.gens.map trap) } : Shared) = s
  rw [mend_trap]

/-- THE RULE: what is run with all sleepers trapped, runs beside them -/
theorem wpAny_beside {α : Type} {M : Model} {A : Around} {t : Sem α} {Q : α → Shared → Prop} {E : Value → Shared → Prop} {s : Shared} (h : wpAny M A t Q E (trapS s)) : wpAny M A t (Beside s.gens Q) (Beside s.gens E) s := fun Γ p hΓ => by
  have q := wp_mend (G := s.gens) t Q E p (trapS s) (tr_trap _) (h Γ p hΓ)
  rw [mendS_trap] at q
  exact q

/-- each sleeper of G is as it was -/
def Kept (G a : Array GenState) : Prop := ∀ (j : Nat) (y : GenState), G[j]? = some y → slp y = true → a[j]? = some y
theorem kept_mend {G a : Array GenState} (t : Tr G a) : Kept G (mend G a) := fun _ _ h hy => mend_in t h hy
theorem bare_trap {G : Array GenState} (h : PyProof.Rows.AllBare G) : PyProof.Rows.AllBare (G.map trap) := fun x hx => by
  obtain ⟨y, hy, rfl⟩ := Array.mem_map.mp hx
  rw [trap_bare]; exact h y hy
theorem bare_mend {G a : Array GenState} (hG : PyProof.Rows.AllBare G) (h : PyProof.Rows.AllBare a) : PyProof.Rows.AllBare (mend G a) := fun x hx => by
  obtain ⟨i, hi, e⟩ := Array.mem_iff_getElem.mp hx
  have e : (mend G a)[i]? = some x := by rw [Array.getElem?_eq_getElem hi, e]
  rw [mend_get] at e
  cases ha : a[i]? with
  | none => rw [ha] at e; cases e
  | some z =>
    rw [ha] at e
    have hz := h z (Array.mem_of_getElem? ha)
    cases hg : G[i]? with
    | none =>
      rw [hg] at e
      have e : z = x := Option.some.inj e
      rw [← e]; exact hz
    | some y =>
      rw [hg] at e
      have hy := hG y (Array.mem_of_getElem? hg)
      have e : (if slp y = true then y else z) = x := Option.some.inj e
      rw [← e]
      split
      · exact hy
      · exact hz
end Asl

namespace L2
open PySem PySem.Spec PyProof.Rows Asl
section
variable {X : Cx} {pins : List (Addr × Obj)} {σ : St} {H : Hp} {s : Shared}
theorem Inv.gens_of (I : Inv X pins σ H s) {g : Array GenState} (h : AllBare g) : Inv X pins σ H { s with gens := g } := ⟨I.ok, I.os, h, I.base, I.loc, I.cell, I.free, I.freeC, I.pin, I.hok, I.len⟩
end
end L2

end

section
namespace L2
open PySem PySem.Spec PyProof.Rows Asl GenW

/-! ### generators that a comprehension walks: the consumer may do what it likes while the generator sleeps, if the generator's own things stay -/
/-- what the consumer does with item number i: x at the heap H; the wish on the heap when the generator is woken -/
abbrev Yl := Nat → V → Hp → (Hp → Prop) → Prop
/-- the consumer's own records -/
def LOk (L : List Addr) (s : Shared) : Prop := ∀ b ∈ L, ∃ o, s.heap.get? b = some o ∧ ∀ v, o.data ≠ .cell v
/-- asleep (s₀: the state in which it was woken) -/
def GY1 (X : Cx) (N : Nat) (L : List Addr) (yl : Yl) : Protocol := fun n s₀ v s kap =>
  ∃ i x ip σ H k, n + 1 + i = N ∧ RelV x v ∧ (∀ p ∈ ip, p.1 ∉ L) ∧ Inv X (pinsAt L s₀.heap ++ ip) σ H s ∧ yl i x H k ∧
    ∀ s' H', LOk L s' → Inv X (pinsAt L s'.heap ++ ip) σ H' s' → k H' → kap (.send .none) s' ∧ kap (.send (.bool true)) s'
/-- what is wanted behind a statement; the number: what is out -/
structure GE1 where
  nx : Nat → St → Hp → Prop
  rt : Nat → VK
  bk : Nat → St → Hp → Prop := fun _ _ _ => False
  ct : Nat → St → Hp → Prop := fun _ _ _ => False
def GE1.at (D : GE1) (i : Nat) : Ends := { nx := D.nx i, rt := D.rt i, bk := D.bk i, ct := D.ct i }
abbrev TG1 := Yl → Nat → GE1 → Nat → St → Hp → Prop
def GP1 (X : Cx) (L : List Addr) (s₀ : Shared) (ip : List (Addr × Obj)) (D : GE1) (i : Nat) (f : Flow) (s : Shared) : Prop := LOk L s₀ ∧ SP X (pinsAt L s₀.heap ++ ip) (D.at i) f s
/-- where the generator's code stands -/
structure GC1 (X : Cx) (A : Around) (c : Code) (fs : List Frame) (gd : Bool → Bool) : Prop where
  over : A.over c fs = X.A
  split : splitAtGen fs = none
  guard : fs.any Frame.guarded = false
  gd : gd false = false
theorem gc1_loop {X : Cx} {A : Around} {c c' : Code} {fs : List Frame} {gd : Bool → Bool} {k : Result → Sem PySem.Fin} {l kp : List Value} {p : Pos} (g : GC1 X A c fs gd) (hw : c'.weight = 0) (hu : c'.cUnits = 0) :
    GC1 X A c' (.ret k none (gd false) l c p kp :: fs) id :=
  ⟨(over_loop hw hu).trans g.over, by unfold splitAtGen; rw [g.split]; rfl, by rw [List.any_cons, g.guard]; show (gd false || false) = false; rw [g.gd]; rfl, rfl⟩

structure GS1 (X : Cx) (st : Stmt) (t : TG1) : Prop where
  run : ∀ (A : Around) (N : Nat) (L : List Addr) (yl : Yl) (R : GenEnd) (n i : Nat) (s₀ : Shared) (c : Code) (fs : List Frame) (K : Flow → Sem PySem.Fin) (J : Value → Sem PySem.Fin) (gd : Bool → Bool) (lv : List Value → List Value) (s : Shared) (σ : St) (H : Hp) (D : GE1) (ip : List (Addr × Obj)),
    GC1 X A c fs gd → n + i = N → (∀ p ∈ ip, p.1 ∉ L) → LOk L s₀ →
    (∀ (n i : Nat) (s₀ s : Shared) (f : Flow), n + i = N → GP1 X L s₀ ip D i f s → Seg (model X.prog X.w) A R (GY1 X N L yl) n s₀ c (K f) fs s) →
    Inv X (pinsAt L s₀.heap ++ ip) σ H s → t yl N D i σ H →
    Seg (model X.prog X.w) A R (GY1 X N L yl) n s₀ c ((exec st X.env).wrap K J gd lv) fs s
structure GSs1 (X : Cx) (st : List Stmt) (t : TG1) : Prop where
  run : ∀ (A : Around) (N : Nat) (L : List Addr) (yl : Yl) (R : GenEnd) (n i : Nat) (s₀ : Shared) (c : Code) (fs : List Frame) (K : Flow → Sem PySem.Fin) (J : Value → Sem PySem.Fin) (gd : Bool → Bool) (lv : List Value → List Value) (s : Shared) (σ : St) (H : Hp) (D : GE1) (ip : List (Addr × Obj)),
    GC1 X A c fs gd → n + i = N → (∀ p ∈ ip, p.1 ∉ L) → LOk L s₀ →
    (∀ (n i : Nat) (s₀ s : Shared) (f : Flow), n + i = N → GP1 X L s₀ ip D i f s → Seg (model X.prog X.w) A R (GY1 X N L yl) n s₀ c (K f) fs s) →
    Inv X (pinsAt L s₀.heap ++ ip) σ H s → t yl N D i σ H →
    Seg (model X.prog X.w) A R (GY1 X N L yl) n s₀ c ((execs st X.env).wrap K J gd lv) fs s

section
variable {X : Cx} {st : Stmt} {rest : List Stmt}
def tG1plain (t : TS) : TG1 := fun _ _ D i σ H => t (D.at i) σ H
theorem gs1_ps {t : TS} (hx : ∀ e s, ¬ X.xe e s) (h : PS X st t) : GS1 X st (tG1plain t) := by
  refine ⟨fun A N L yl R n i s₀ c fs K J gd lv s σ H D ip g hn hip hL k I ht => seg_wrap ?_⟩
  rw [g.over]
  exact wpAny_mono (h.run _ s σ H (D.at i) I ht) (fun f s' hs => k n i s₀ s' f hn ⟨hL, hs⟩) fun e s' q => (hx e s' q).elim
def tG1nil : TG1 := fun _ _ D i σ H => D.nx i σ H
theorem gss1_nil : GSs1 X [] tG1nil := ⟨fun A N L yl R n i s₀ c fs K J gd lv s σ H D ip g hn hip hL k I ht => seg_execs_nil (k n i s₀ s .next hn ⟨hL, σ, H, I, ht⟩)⟩
def tG1cons (t u : TG1) : TG1 := fun yl N D i σ H => t yl N { D with nx := fun i' σ' H' => u yl N D i' σ' H' } i σ H
theorem gss1_cons {t u : TG1} (a : GS1 X st t) (b : GSs1 X rest u) : GSs1 X (st :: rest) (tG1cons t u) := by
  refine ⟨fun A N L yl R n i s₀ c fs K J gd lv s σ H D ip g hn hip hL k I ht => seg_execs_cons ?_⟩
  refine a.run A N L yl R n i s₀ c fs _ J gd lv s σ H _ ip g hn hip hL (fun n' i' s₀' s' f hn' hs => ?_) I ht
  match f, hs with
  | .next, ⟨hL', σ', H', I', q⟩ => exact b.run A N L yl R n' i' s₀' c fs K J gd lv s' σ' H' D ip g hn' hip hL' k I' q
  | .brk, hs => exact k n' i' s₀' s' .brk hn' hs
  | .cont, hs => exact k n' i' s₀' s' .cont hn' hs
  | .ret u, hs => exact k n' i' s₀' s' (.ret u) hn' hs

/-- yield e -/
def tG1yield (te : TE) : TG1 := fun yl N D i σ H => i < N ∧ te σ H fun x H1 => yl i x H1 fun H2 => D.nx (i + 1) σ H2
theorem gs1_yield {e : Expr} {yp pos : Pos} {te : TE} (hx : ∀ e s, ¬ X.xe e s) (he : PE X e te) (hco : X.env.scope.isCoroutine = false := by rfl) (hi : interactive X.env = false := by rfl) : GS1 X (.Expr (.Yield (some e) yp) pos) (tG1yield te) := by
  refine ⟨fun A N L yl R n i s₀ c fs K J gd lv s σ H D ip g hn hip hL k I ht => ?_⟩
  obtain ⟨hlt, ht⟩ := ht
  obtain ⟨m, rfl⟩ : ∃ m, n = m + 1 := ⟨n - 1, by omega⟩
  refine seg_Expr_Yield g.split g.gd g.guard ?_ hco hi
  rw [g.over]
  refine wpAny_mono (he.run _ s σ H _ I ht) (fun v s' hv kap hk => ?_) fun e s' q => (hx e s' q).elim
  obtain ⟨x, H1, I1, rv, q⟩ := hv
  exact ⟨i, x, ip, σ, H1, _, hn, rv, hip, I1, q, fun s2 H2 hL2 I2 q2 => have z := k m (i + 1) s2 s2 .next (by omega) ⟨hL2, σ, H2, I2, q2⟩; ⟨hk .none s2 z, hk (.bool true) s2 z⟩⟩

/-- for tg in iter: .. yield .. -/
def tG1for (wi : TI) (g : TG) (tb : TG1) : TG1 := fun yl N D i σ H => wi σ H fun J H1 => ∃ W : Nat → Nat → Nat → St → Hp → Prop, (∃ m, W 0 m i σ H1) ∧ ∀ j m i σ H, W j m i σ H →
  (J.stop j H ∧ D.nx i σ H) ∨ (J.go j H ∧ ∃ B : Nat → St → Hp → Prop, (∀ i' σ' H', B i' σ' H' → ∃ m', m' < m ∧ W (j + 1) m' i' σ' H') ∧
    ∀ x H', J.yld j H x H' → g x σ H' fun σ2 H2 => tb yl N { D with nx := B, ct := B, bk := D.nx } i σ2 H2)
theorem seg_For1 {M : Model} {A : Around} {R : GenEnd} {Y : Protocol} {n : Nat} {s₀ s : Shared} {c : Code} {fs : List Frame} {env : Env} {K : Flow → Sem PySem.Fin} {J : Value → Sem PySem.Fin} {gd : Bool → Bool} {lv : List Value → List Value} {tg iter : Expr} {body orelse : List Stmt} {pos : Pos}
    (h : wpAny M (A.over c fs) (eval iter env) (fun x s1 => wpAny M (A.over c fs) (pyIter x) (fun it s2 => ∀ p, Seg M A R Y n s₀ (.forLoop tg it body orelse env) (M.den (.forLoop tg it body orelse env))
      (.ret (fun r => ((match r with | .ok f => (.pure f : Sem Flow) | .error e => .raise e).onRaise (cameBack env)).wrap K J gd lv) none (gd false) (lv []) c p [] :: fs) s2) (fun _ _ => False) s1) (fun _ _ => False) s)
    (hs : ∀ x, foldedSetIterable iter env x = pure x := by intro _; rfl) : Seg M A R Y n s₀ c ((exec (.For tg iter body orelse pos) env).wrap K J gd lv) fs s := by
  rw [exec_For]
  refine seg_bind_wrap (wpAny_standAt (seg_bind_wrap (wpAny_mono h (fun x s1 h1 => ?_) fun _ _ q => q.elim)))
  refine seg_bind_wrap (wpAny_of_eq (hs x) ?_)
  refine seg_bind_wrap (wpAny_standAt (seg_bind_wrap (wpAny_holding (wpAny_mono h1 (fun it s2 h2 => ?_) fun _ _ q => q.elim))))
  exact seg_call h2
theorem seg_forLoop1 {P : Program} {w : World} {A : Around} {R : GenEnd} {Y : Protocol} {n : Nat} {s₀ s : Shared} {fs : List Frame} {env : Env} {tg : Expr} {it : Value} {body : List Stmt}
    (h : wpAny (model P w) (A.over (.forLoop tg it body [] env) fs) (pyNext it) (fun r s1 => match r with
      | none => Seg (model P w) A R Y n s₀ (.block [] env) (.pure (.done .next)) fs s1
      | some v => wpAny (model P w) (A.over (.forLoop tg it body [] env) fs) (letOwnedTupleGo tg it v) (fun _ s2 => wpAny (model P w) (A.over (.forLoop tg it body [] env) fs) (assign tg env v) (fun _ s3 =>
          ∀ J, Seg (model P w) A R Y n s₀ (.forLoop tg it body [] env) ((execs body env).wrap (fun f => match f with
            | .next | .cont => .pure (.again (.forLoop tg it body [] env))
            | .brk => .pure (.done .next)
            | .ret v => .pure (.done (.ret v))) J id id) fs s3) (fun _ _ => False) s2) (fun _ _ => False) s1) (fun _ _ => False) s) :
    Seg (model P w) A R Y n s₀ (.forLoop tg it body [] env) ((model P w).den (.forLoop tg it body [] env)) fs s := by
  show Seg _ A R Y n s₀ _ ((forTurn tg it body [] env).onRaise (fun x => do noteFrame x env; theTreesLotGoes x)) fs s
  unfold forTurn
  rw [Sem.onRaise_eq_wrap]
  refine seg_bind_wrap (wpAny_standAt (seg_bind_wrap (wpAny_onRaise (wpAny_mono h (fun r s1 h1 => ?_) fun _ _ q => q.elim))))
  cases r with
  | none =>
    refine seg_again rfl ?_
    show Seg _ A R Y n s₀ _ ((execs [] env).onRaise (fun x => do noteFrame x env; theTreesLotGoes x) >>= fun f => pure (Fin.done f)) fs s1
    exact h1
  | some v =>
    refine seg_bind_wrap (wpAny_mono h1 (fun _ s2 h2 => ?_) fun _ _ q => q.elim)
    refine seg_bind_wrap (wpAny_mono h2 (fun _ s3 h3 => ?_) fun _ _ q => q.elim)
    rw [Sem.bind_eq_wrap', Sem.wrap_wrap]
    refine (congrArg (fun t => Seg (model P w) A R Y n s₀ (.forLoop tg it body [] env) t fs s3) (Sem.wrap_congr (execs body env) _ _ (fun f => ?_) (fun _ => rfl))).mpr (h3 _)
    cases f <;> rfl

theorem gs1_for {tg iter : Expr} {body : List Stmt} {pos : Pos} {wi : TI} {g : TG} {tb : TG1} (hx : ∀ e s, ¬ X.xe e s) (hc : X.calm = true) (hi : PI X tg iter wi) (hg : PG X tg g) (hb : GSs1 X body tb)
    (hs : ∀ x, foldedSetIterable iter X.env x = pure x := by intro _; rfl) : GS1 X (.For tg iter body [] pos) (tG1for wi g tb) := by
  refine ⟨fun A N L yl R n i s₀ c fs K J gd lv s σ H D ip gc hn hip hL k I ht => seg_For1 ?_ hs⟩
  rw [gc.over]
  refine wpAny_mono (hi.run _ s σ H _ I ht) (fun v s1 h1 => wpAny_mono h1 (fun itv s2 h2 p => ?_) fun e s' q => (hx e s' q).elim) fun e s' q => (hx e s' q).elim
  obtain ⟨it, fp, tn, J0, H2, rfl, I2, T, st2, f2, W, ⟨m0, w0⟩, turn⟩ := h2
  -- the iterator's records are none of the consumer's
  have hfL : ∀ b ∈ fp, b ∉ L := fun b hb hm => by
    obtain ⟨o, ho, _⟩ := hL b hm
    exact (f2 b hb).2.2.2.2.2 (b, o) (List.mem_append_right _ (List.mem_append_left _ (mem_pinsAt hm ho))) rfl
  have stat : ∀ {s₀' : Shared} {H' : Hp}, (∀ b ∈ fp, H' b = none) → ∀ b ∈ fp, FpOk X (pinsAt L s₀'.heap ++ ip) H' b := by
    intro s₀' H' hn' b hb
    obtain ⟨_, f21, f22, f23, f24, f25⟩ := f2 b hb
    refine ⟨hn' b hb, f21, f22, f23, f24, fun q hq => ?_⟩
    rcases List.mem_append.mp hq with hq | hq
    · exact f25 q (List.mem_append_left _ hq)
    · rcases List.mem_append.mp hq with hq | hq
      · exact fun e => hfL b hb (by rw [← e]; exact (of_pinsAt hq).1)
      · exact f25 q (List.mem_append_right _ (List.mem_append_right _ hq))
  generalize hF : (Frame.ret (fun r => ((match r with | .ok f => (.pure f : Sem Flow) | .error e => .raise e).onRaise (cameBack X.env)).wrap K J gd lv) none (gd false) (lv []) c p []) = F
  have gl : GC1 X A (.forLoop tg (.ref it) body [] X.env) (F :: fs) id := by rw [← hF]; exact gc1_loop gc rfl rfl
  have leaf : ∀ (c' : Code) (f : Flow) (n' i' : Nat) (s₀' s' : Shared), (f = .next ∨ ∃ u, f = .ret u) → n' + i' = N → GP1 X L s₀' ip D i' f s' → Seg (model X.prog X.w) A R (GY1 X N L yl) n' s₀' c' (.pure (.done f)) (F :: fs) s' := by
    intro c' f n' i' s₀' s' hf hn' q
    rw [← hF]
    exact seg_leaf (.ok f) (k n' i' s₀' s' f hn' q)
  suffices loop : ∀ (m j n i : Nat) (s₀ s : Shared) (σ : L2.St) (H : Hp), n + i = N → LOk L s₀ → W j m i σ H → Inv X (pinsAt L s₀.heap ++ ip) σ H s → tn j s.heap → (∀ b ∈ fp, H b = none) →
      Seg (model X.prog X.w) A R (GY1 X N L yl) n s₀ (.forLoop tg (.ref it) body [] X.env) ((model X.prog X.w).den (.forLoop tg (.ref it) body [] X.env)) (F :: fs) s from
    loop m0 0 n i s₀ s2 σ H2 hn hL w0 I2 st2 fun b hb => (f2 b hb).1
  intro m
  induction m using Nat.strongRecOn with
  | ind m ih =>
    intro j n i s₀ s σ H hn hL w I st fr
    refine seg_forLoop1 ?_
    rw [gl.over]
    rcases turn j m i σ H w with ⟨stop, qn⟩ | ⟨go, B, hB, step⟩
    · refine wpAny_mono (T.done X rfl rfl rfl hc j _ s σ H (fun _ _ => False) I (stat fr) st stop) (fun r s4 h4 => ?_) fun _ _ q => q.elim
      obtain ⟨rfl, I4⟩ := h4
      exact leaf _ .next n i s₀ s4 (.inl rfl) hn ⟨hL, σ, H, I4, qn⟩
    · refine wpAny_mono (T.item X rfl rfl rfl hc j _ s σ H (fun _ _ => False) I (stat fr) st go) (fun r s4 h4 => ?_) fun _ _ q => q.elim
      obtain ⟨u, rfl, h4⟩ := h4
      refine wpAny_mono h4 (fun _ s5 h5 => ?_) fun _ _ q => q.elim
      obtain ⟨x, H5, I5, r5, y5, st5, fr5⟩ := h5
      have I5' := I5.pinned (stat fr5) (T.obj _ _ st5)
      refine wpAny_mono (hg.run _ s5 σ H5 x u _ I5' r5 (step x H5 y5)) (fun _ s6 h6 J' => ?_) fun e s' q => (hx e s' q).elim
      obtain ⟨σ6, H6, I6, q6⟩ := h6
      rw [List.append_assoc] at I6
      have back : ∀ {s₀' s' : Shared} {σ7 : L2.St} {H7 : Hp}, Inv X (pinsAt L s₀'.heap ++ (ip ++ pinsAt fp s5.heap)) σ7 H7 s' → Inv X (pinsAt L s₀'.heap ++ ip) σ7 H7 s' ∧ tn (j + 1) s'.heap ∧ ∀ b ∈ fp, H7 b = none := by
        intro s₀' s' σ7 H7 I7
        have pin : ∀ b ∈ fp, ∀ o, s5.heap.get? b = some o → s'.heap.get? b = some o ∧ H7 b = none := fun b hb o e =>
          let z := I7.pin (b, o) (List.mem_append_right _ (List.mem_append_right _ (List.mem_append_right _ (mem_pinsAt hb e))))
          ⟨z.1, z.2.1⟩
        refine ⟨?_, T.keep _ _ _ st5 fun b hb o e => (pin b hb o e).1, fun b hb => ?_⟩
        · rw [← List.append_assoc] at I7
          exact I7.unpinned
        · obtain ⟨o, e, _⟩ := T.obj _ _ st5 b hb
          exact (pin b hb o e).2
      refine hb.run A N L yl R n i s₀ _ (F :: fs) _ J' id id s6 σ6 H6 _ (ip ++ pinsAt fp s5.heap) gl hn (fun q hq => ?_) hL (fun n' i' s₀' s' f hn' hq => ?_) I6 q6
      · rcases List.mem_append.mp hq with hq | hq
        · exact hip q hq
        · exact hfL _ (of_pinsAt hq).1
      · have turnOn : ∀ σ7 H7, LOk L s₀' → Inv X (pinsAt L s₀'.heap ++ (ip ++ pinsAt fp s5.heap)) σ7 H7 s' → B i' σ7 H7 →
            Seg (model X.prog X.w) A R (GY1 X N L yl) n' s₀' (.forLoop tg (.ref it) body [] X.env) (.pure (.again (.forLoop tg (.ref it) body [] X.env))) (F :: fs) s' := by
          intro σ7 H7 hL' I7 q7
          obtain ⟨m', hm, w'⟩ := hB i' σ7 H7 q7
          obtain ⟨I8, st8, fr8⟩ := back I7
          exact seg_again rfl (ih m' hm (j + 1) n' i' s₀' s' σ7 H7 hn' hL' w' I8 st8 fr8)
        match f, hq with
        | .next, ⟨hL', σ7, H7, I7, q7⟩ => exact turnOn σ7 H7 hL' I7 q7
        | .cont, ⟨hL', σ7, H7, I7, q7⟩ => exact turnOn σ7 H7 hL' I7 q7
        | .brk, ⟨hL', σ7, H7, I7, q7⟩ => exact leaf _ .next n' i' s₀' s' (.inl rfl) hn' ⟨hL', σ7, H7, (back I7).1, q7⟩
        | .ret v, ⟨hL', x7, σ7, H7, I7, r7, q7⟩ => exact leaf _ (.ret v) n' i' s₀' s' (.inr ⟨v, rfl⟩) hn' ⟨hL', x7, σ7, H7, (back I7).1, r7, q7⟩
end
end L2

end

section
namespace L2
open PySem PySem.Spec PyProof.Rows Asl GenW

/-- other pins, another wish of exceptions -/
abbrev Cx.alt (X : Cx) (pn : List (Addr × Obj)) (xe : Value → Shared → Prop) : Cx := { X with pn := pn, xe := xe }
theorem Inv.alt {X : Cx} {pn pins pl : List (Addr × Obj)} {xe : Value → Shared → Prop} {σ : St} {H : Hp} {s : Shared} (I : Inv X pl σ H s)
    (h : ∀ p ∈ pn ++ pins, s.heap.get? p.1 = some p.2 ∧ H p.1 = none ∧ p.1 ≠ X.env.locals ∧ p.1 ∉ X.fs ∧ ∀ v, p.2.data ≠ .cell v) : Inv (X.alt pn xe) pins σ H s :=
  ⟨⟨I.ok.mod, I.ok.kind, I.ok.glob, I.ok.blt, I.ok.above, I.ok.inj, I.ok.has, I.ok.cab, I.ok.hd, I.ok.frames, I.ok.stk, I.ok.exf, I.ok.bs, I.ok.bsz, I.ok.noex, I.ok.exfs, I.ok.funs, I.ok.frf⟩,
    I.os, I.bare, I.base, I.loc, I.cell, I.free, I.freeC, h, I.hok, I.len⟩
/-- the context of a generator's body -/
abbrev gcx1 (P : Program) (w : World) (K : PySem.W.Frag) (mg : Str → Option Value) (base : Heap) (N : List Str) (qual : Str) (scope : Scope) (f : Addr) (cd : Value) (A : Around) (outer : List Env) (s : Shared) (H : Hp) (pn : List (Addr × Obj)) : Cx :=
  (gcxOf P w K mg base N qual scope f cd A outer s H (fun _ _ _ => False) []).alt pn fun _ _ => False

/-- asleep, as the consumer sees it (sg, Hg: the state and the heap at the generator's call) -/
def YOut (P : Program) (w : World) (outer : List Env) (Hg : Hp) (sg : Shared) (a : Addr) (g N : Nat) (L : List Addr) (yl : Yl) : Protocol := fun n s₀ v s kap =>
  ∃ i x H k, n + 1 + i = N ∧ RelV x v ∧ s.os = sg.os ∧ AllBare s.gens ∧ s.heap.NoLimit ∧ s.heap.IsGen a g ∧ H a = none ∧ Un (frs outer) [] Hg H sg.heap s.heap ∧ HOk P w H s.heap ∧ (∀ p ∈ pinsAt L s₀.heap, s.heap.get? p.1 = some p.2 ∧ H p.1 = none) ∧ yl i x H k ∧
    ∀ s' H', s'.os = s.os → AllBare s'.gens → Un (frs outer) L H H' s.heap s'.heap → HOk P w H' s'.heap → LOk L s' → (∀ b ∈ L, H' b = none) → k H' → kap (.send .none) s' ∧ kap (.send (.bool true)) s'
/-- at its end -/
def RAt (P : Program) (w : World) (outer : List Env) (Hg : Hp) (sg : Shared) (L : List Addr) (Q : Nat → Hp → Prop) (s₀ s : Shared) : Prop := ∃ i H, s.os = sg.os ∧ AllBare s.gens ∧ Un (frs outer) [] Hg H sg.heap s.heap ∧ HOk P w H s.heap ∧ (∀ p ∈ pinsAt L s₀.heap, s.heap.get? p.1 = some p.2 ∧ H p.1 = none) ∧ Q i H
def ROut (P : Program) (w : World) (outer : List Env) (Hg : Hp) (sg : Shared) (L : List Addr) (Q : Nat → Hp → Prop) : GenEnd := fun n s₀ r s =>
  ((r = .ok (.ret .none) ∨ r = .ok .next) ∧ (fun (_ : Nat) s₀ s => RAt P w outer Hg sg L Q s₀ s) n s₀ s) ∨ ∃ e, r = .error e ∧ (fun (_ : Value) (_ : Shared) => False) e s
/-- a generator def's promise: the arguments, what the consumer does with the items, how many at most, the heap when it begins, the wish at its end -/
abbrev SpG1 := List V → Yl → Nat → Hp → (Nat → Hp → Prop) → Prop
/-- a generator that has not begun -/
def GMade1 (P : Program) (w : World) (k : Nat) (outer : List Env) (Hg : Hp) (sg : Shared) (vs : List V) (sp : SpG1) (u : Value) (s' : Shared) : Prop :=
  ∃ (a : Addr) (g : Nat) (c : Code), u = .ref a ∧ sg.heap.objs.size ≤ a ∧ a < s'.heap.objs.size ∧ s'.heap.IsGen a g ∧ s'.gens[g]? = some (.fresh c) ∧ s'.os = sg.os ∧ AllBare s'.gens ∧ s'.heap.NoLimit ∧ (∀ b o, sg.heap.get? b = some o → s'.heap.get? b = some o) ∧
    ∀ (A : Around) (N : Nat) (L : List Addr) (yl : Yl) (H2 : Hp) (Q : Nat → Hp → Prop) (s2 : Shared), Room k A → A.frames = some outer → (∀ b ∈ L, s'.heap.objs.size ≤ b) → (∀ b ∈ L, H2 b = none) → LOk L s2 → H2 a = none →
      Un (frs outer) [] Hg H2 s'.heap s2.heap → HOk P w H2 s2.heap → s2.os = sg.os → AllBare s2.gens → sp vs yl N H2 Q →
      Seg (model P w) A (ROut P w outer Hg sg L Q) (YOut P w outer Hg sg a g N L yl) N s2 c ((model P w).den c) [] s2
structure GFn1 (P : Program) (w : World) (K : PySem.W.Frag) (mg : Str → Option Value) (base : Heap) (k : Nat) (f : Addr) (fd : FuncData) (ps : List Str) (sp : SpG1) : Prop where
  run : ∀ (A : Around) (outer : List Env) (s : Shared) (H : Hp) (args : Args) (us : List Value) (vs : List V), vs.length = ps.length → Room k A → Env0 P w K mg base A outer s H → BindsTo s fd args (ps.zip us) → Vals vs us →
    codeAny (model P w) A (.call (.ref f) args) (fun r s' => match r with | .ok (.ret u) => GMade1 P w k outer H s vs sp u s' | _ => False) s

theorem gfn1_of {P : Program} {w : World} {K : PySem.W.Frag} {mg : Str → Option Value} {base : Heap} {k : Nat} {f : Addr} {name qual : Str} {params : Arguments} {body : List Stmt} {scope : Scope} {dV kV doc pm cdv ct oc : Value} {an od : Option Addr}
    {osl : Array (Option Value)} {N ps : List Str} {sp : SpG1} (lk : K.lookup f = some ⟨oc, od, .func (PySem.W.fnOf name qual params body scope dV kV doc pm an cdv ct), osl⟩) (hcd : PySem.W.codeIn K cdv qual = true) (S : GScope N ps scope)
    (hbody : ∀ (A : Around) (outer : List Env) (s : Shared) (H : Hp) (vs : List V) (pn : List (Addr × Obj)), Room k (A.deeper (envOfC qual scope s.heap.objs.size f cdv)) → vs.length = ps.length →
      ∃ t, GSs1 (gcx1 P w K mg base N qual scope f cdv A outer s H pn) body t ∧ ∀ yl M H2 Q, sp vs yl M H2 Q → t yl M { nx := fun i _ H' => Q i H', rt := fun i v H' => v = .non ∧ Q i H' } 0 (start N vs) H2) :
    GFn1 P w K mg base (k + 1) f (PySem.W.fnOf name qual params body scope dV kV doc pm an cdv ct) ps sp := by
  refine ⟨fun A outer s H args us vs hl hr e0 hb r => ?_⟩
  have keep0 : ∀ b o, base.get? b = some o → s.heap.get? b = some o := fun b o e => (e0.bs b o e).1
  have KX : K.In s.heap := e0.mod.kin.keeps keep0
  have lim : s.heap.NoLimit := e0.mod.nolimit.keeps keep0
  have kinds : ∀ y ∈ ps.zip us, scope.names.lookup y.1 = some .local ∨ (scope.names.lookup y.1 = some .cell ∧ ((cellsFrom (s.heap.objs.size + 1) scope.names []).lookup y.1).isSome = true) := by
    intro y hy
    exact (S.par y.1 (List.of_mem_zip (a := y.1) (b := y.2) hy).1).imp id fun q => ⟨q, PySem.W.cellsFrom_some _ _ _ (.inl q)⟩
  refine codeAny_call_generator hr.depth (KX _ _ lk) rfl S.co S.gen rfl (PySem.W.codeRec_of KX hcd) (hb _ _ _ _ (wpAny_newFunctionEnv_cells S.kind kinds fun env he s1 x => ?_))
  subst he
  have nl1 : s1.heap.NoLimit := lim.keeps x.toInCall.keep
  refine ⟨nl1, ?_⟩
  obtain ⟨h1, tk, es1, k1⟩ := x.done
  have lt1 : s.heap.objs.size < s1.heap.objs.size := x.toInCall.ns.lt
  have g1 : s1.gens = s.gens := by rw [es1]
  have o1 : s1.os = s.os := by rw [es1]
  have kp1 : ∀ b o, s.heap.get? b = some o → s1.heap.get? b = some o := x.toInCall.keep
  -- the generator's own object
  generalize hgo : ({ cls := .type "generator", data := .fields #[.int s1.gens.size 0, .str name s1.toks, .str qual (s1.toks + 1)] } : Obj) = go
  have isg : ∀ h : Heap, h.get? s1.heap.objs.size = some go → h.IsGen s1.heap.objs.size s1.gens.size := fun h e => ⟨go, _, _, e, by rw [← hgo], by rw [← hgo], by rw [← hgo]⟩
  have nocell : ∀ v, go.data ≠ .cell v := fun v e => by rw [← hgo] at e; cases e
  have there : (s1.heap.push go).get? s1.heap.objs.size = some go := Heap.get?_push_size _ (by rw [← hgo]; rfl)
  show GMade1 P w (k + 1) outer H s vs sp (.ref s1.heap.objs.size) { s1 with gens := s1.gens.push (.fresh (.func body (envOfC qual scope s.heap.objs.size f cdv))), toks := s1.toks + 1 + 1, heap := s1.heap.push _ }
  refine ⟨s1.heap.objs.size, s1.gens.size, _, rfl, Nat.le_of_lt lt1, ?_, isg _ there, Array.getElem?_push_size .., o1, ?_, nl1.keeps fun b o e => Heap.get?_push_of_some _ e, fun b o e => Heap.get?_push_of_some _ (kp1 b o e), ?_⟩
  · show _ < (s1.heap.push _).objs.size
    rw [Heap.size_push]; exact Nat.lt_succ_self _
  · exact AllBare.push (by rw [g1]; exact e0.bare) rfl
  intro Aw M L yl H2 Q s2 hrw hfr hLy hLn hLo haH un hok os2 ba2 hsp
  have e0w : Env0 P w K mg base Aw outer s H := ⟨hfr, e0.mod, e0.bs, e0.bsz, e0.funs, e0.frf, e0.hok, e0.bare⟩
  obtain ⟨t, ht, hq⟩ := hbody Aw outer s H vs [(s1.heap.objs.size, go)] (hrw.deeper _) hl
  generalize hX : gcx1 P w K mg base N qual scope f cdv Aw outer s H [(s1.heap.objs.size, go)] = Xg at ht
  have I1 : Inv (gcxOf P w K mg base N qual scope f cdv Aw outer s H (fun _ _ _ => False) []) [] (start N vs) H s1 := inv_startG S hrw.hd e0w hl r x
  have hgone : H s1.heap.objs.size = none := I1.hok.fresh (Nat.le_refl _)
  have young : ∀ b, s1.heap.objs.size ≤ b → b ≠ s.heap.objs.size ∧ b ∉ frs outer ∧ s.heap.objs.size ≤ b ∧ ∀ y c, (cellsFrom (s.heap.objs.size + 1) scope.names []).lookup y = some c → c ≠ b := by
    intro b hb
    refine ⟨Nat.ne_of_gt (Nat.lt_of_lt_of_le lt1 hb), I1.nofs hb, Nat.le_trans (Nat.le_of_lt lt1) hb, fun y c e z => ?_⟩
    obtain ⟨_, ob, ho, _⟩ := I1.cell y c e
    have := Heap.lt_size ho
    rw [z] at this
    exact absurd (Nat.lt_of_lt_of_le this hb) (Nat.lt_irrefl _)
  have Ls : ∀ b ∈ L, s1.heap.objs.size < b := fun b hb => by
    have z : (s1.heap.push go).objs.size ≤ b := hLy b hb
    rw [Heap.size_push] at z
    exact z
  have outFs : ∀ b ∈ frs outer, b ∈ frs (envOfC qual scope s.heap.objs.size f cdv :: outer) := fun b hb => by
    unfold frs at hb ⊢
    rw [List.filterMap_cons]
    exact List.mem_cons_of_mem _ hb
  have un1 : Un (frs outer) [] H H2 s1.heap s2.heap := by
    refine (Un.kept fun b o e => ?_).trans un
    exact Heap.get?_push_of_some _ e
  have I2 : Inv (gcxOf P w K mg base N qual scope f cdv Aw outer s H (fun _ _ _ => False) []) [] (start N vs) H2 s2 :=
    I1.call' (ch := []) (os2.trans o1.symm) (un1.mono outFs fun _ z => z) hok ba2 fun b z => absurd z (List.not_mem_nil)
  have hgo2 : s2.heap.get? s1.heap.objs.size = some go := by
    refine un.keep _ _ there hgone (young _ (Nat.le_refl _)).2.1 (List.not_mem_nil)
  have pinL : ∀ {s' : Shared} {H' : Hp}, (∀ b ∈ L, H' b = none) → LOk L s' → ∀ p ∈ pinsAt L s'.heap, s'.heap.get? p.1 = some p.2 ∧ H' p.1 = none ∧ p.1 ≠ s.heap.objs.size ∧ p.1 ∉ frs outer ∧ ∀ v, p.2.data ≠ .cell v := by
    intro s' H' hn ho p hp
    obtain ⟨hb, e⟩ := of_pinsAt hp
    obtain ⟨y1, y2, _, _⟩ := young p.1 (Nat.le_of_lt (Ls _ hb))
    obtain ⟨o, e', d⟩ := ho p.1 hb
    rw [e] at e'; cases e'
    exact ⟨e, hn _ hb, y1, y2, d⟩
  have I3 : Inv Xg (pinsAt L s2.heap ++ []) (start N vs) H2 s2 := by
    rw [← hX]
    refine I2.alt fun p hp => ?_
    rcases List.mem_cons.mp hp with hp | hp
    · subst hp
      obtain ⟨y1, y2, _, _⟩ := young s1.heap.objs.size (Nat.le_refl _)
      exact ⟨hgo2, haH, y1, y2, nocell⟩
    · rw [List.append_nil] at hp
      exact pinL hLn hLo p hp
  have key : ∀ {pins : List (Addr × Obj)} {σ : L2.St} {H' : Hp} {s' : Shared}, Inv Xg pins σ H' s' → s'.heap.IsGen s1.heap.objs.size s1.gens.size ∧ H' s1.heap.objs.size = none ∧ s'.os = s.os ∧ Un (frs outer) [] H H' s.heap s'.heap ∧ HOk P w H' s'.heap := by
    intro pins σ H' s' J
    rw [← hX] at J
    have z := J.pin (s1.heap.objs.size, go) (List.mem_append_left _ List.mem_cons_self)
    exact ⟨isg _ z.1, z.2.1, J.os, J.base, J.hok⟩
  refine seg_func ?_
  refine seg_imp (R := fun n s₀ r s' => (r = .ok (.ret .none) ∨ r = .ok .next) ∧ ∃ i σ H', Inv Xg (pinsAt L s₀.heap ++ []) σ H' s' ∧ Q i H') (Y := GY1 Xg M L yl) (fun n s₀ r s' hR => ?_) (fun n s₀ v s' kap kap' hkk hY => ?_) M ?_
  · obtain ⟨hr', i, σ, H', J, q⟩ := hR
    obtain ⟨_, _, y3, y4, y5⟩ := key J
    exact .inl ⟨hr', i, H', y3, J.bare, y4, y5, fun p hp => let z := J.pin p (List.mem_append_right _ (List.mem_append_left _ hp)); ⟨z.1, z.2.1⟩, q⟩
  · obtain ⟨i, xx, ip, σ, H', kk, hn, rv, hip, J, q, back⟩ := hY
    obtain ⟨y1, y2, y3, y4, y5⟩ := key J
    refine ⟨i, xx, H', kk, hn, rv, y3, J.bare, J.nolimit, y1, y2, y4, y5, fun p hp => let z := J.pin p (List.mem_append_right _ (List.mem_append_left _ hp)); ⟨z.1, z.2.1⟩, q, fun s3 H3 os3 ba3 un3 hok3 hL3 hn3 k3 => (fun z => ⟨hkk _ _ z.1, hkk _ _ z.2⟩) (back s3 H3 hL3 ?_ k3)⟩
    -- woken: the generator's things are as they were
    have J1 : Inv Xg ip σ H' s' := J.pins_of fun p hp => J.pin p (List.mem_append_right _ (List.mem_append_right _ hp))
    have hLc : ∀ b ∈ L, (b ∈ Xg.ex ∨ Xg.s_0.heap.objs.size ≤ b) ∧ b ≠ Xg.env.locals ∧ (∀ x c, Xg.env.cells.lookup x = some c → c ≠ b) ∧ ∀ p ∈ Xg.pn ++ ip, p.1 ≠ b := by
      intro b hb
      obtain ⟨z1, z2, z3, z4⟩ := young b (Nat.le_of_lt (Ls b hb))
      rw [← hX]
      refine ⟨.inr z3, z1, z4, fun p hp => ?_⟩
      rcases List.mem_append.mp hp with hp | hp
      · rw [List.mem_singleton.mp hp]
        exact Nat.ne_of_lt (Ls b hb)
      · exact fun e => hip p hp (by rw [e]; exact hb)
    have fsX : ∀ b ∈ frs outer, b ∈ frs Xg.stack := by rw [← hX]; exact outFs
    have hokX : HOk Xg.prog Xg.w H3 s3.heap := by rw [← hX]; exact hok3
    have J2 : Inv Xg ip σ H3 s3 := J1.call' (ch := L) os3 (un3.mono fsX fun _ z => z) hokX ba3 hLc
    refine J2.pins_of fun p hp => ?_
    rcases List.mem_append.mp hp with hp | hp
    · have z := pinL hn3 hL3 p hp
      rw [← hX]
      exact z
    · exact J2.pin p (List.mem_append_right _ hp)
  · have ov : Aw.over (.func body (envOfC qual scope s.heap.objs.size f cdv)) [] = Xg.A := by rw [← hX]; exact over_func
    have eP : Xg.prog = P ∧ Xg.w = w ∧ Xg.env = envOfC qual scope s.heap.objs.size f cdv := by rw [← hX]; exact ⟨rfl, rfl, rfl⟩
    obtain ⟨eP, eW, eE⟩ := eP
    have z := ht.run Aw M L yl (fun n s₀ r s' => (r = .ok (.ret .none) ∨ r = .ok .next) ∧ ∃ i σ H', Inv Xg (pinsAt L s₀.heap ++ []) σ H' s' ∧ Q i H') M 0 s2 (.func body (envOfC qual scope s.heap.objs.size f cdv)) []
      (fun f => .pure (.done (.ret (match f with | .ret v => v | _ => .none)))) (fun e => (leaving (envOfC qual scope s.heap.objs.size f cdv) e).wrap (fun _ => .raise e) .raise id id) id id s2 (start N vs) H2 _ [] ⟨ov, rfl, rfl, rfl⟩ (Nat.add_zero _) (fun _ z => absurd z List.not_mem_nil) hLo
      (fun n i s₀ s' fl hn hs => ?_) I3 (hq yl M H2 Q hsp)
    · rw [eP, eW, eE] at z
      exact z
    · match fl, hs with
      | .next, ⟨_, σ', H', J, q⟩ => exact seg_end (.ok (.ret .none)) ⟨.inl rfl, i, σ', H', J, q⟩
      | .ret u, ⟨_, v, σ', H', J, rv, ev, q⟩ =>
        subst ev
        obtain rfl : u = Value.none := rv
        exact seg_end (.ok (.ret .none)) ⟨.inl rfl, i, σ', H', J, q⟩
      | .brk, ⟨_, _, _, _, q⟩ => exact False.elim q
      | .cont, ⟨_, _, _, _, q⟩ => exact False.elim q
end L2

end

section
namespace L2
open PySem PySem.Spec PyProof.Rows Asl GenW

/-! ### a list comprehension over a generator -/
/-- an expression of which is known what it keeps from its own beginning -/
structure PEu (X : Cx) (e : Expr) (te : TE) : Prop where
  run : ∀ (pins : List (Addr × Obj)) (s : Shared) (σ : St) (H : Hp) (Q : VK), Inv X pins σ H s → te σ H Q → wpAny (model X.prog X.w) X.A (eval e X.env) (CE X.stack X.prog X.w H s Q) X.xe s
/-- an expression that gives a generator -/
structure PGen1 (X : Cx) (e : Expr) (k : Nat) (sp : SpG1) (t : TA) : Prop where
  run : ∀ (pins : List (Addr × Obj)) (s : Shared) (σ : St) (H : Hp) (Q : List V → Hp → Prop), Inv X pins σ H s → t σ H Q →
    wpAny (model X.prog X.w) X.A (eval e X.env) (fun u s' => ∃ vs Hg sg, Inv X pins σ Hg sg ∧ GMade1 X.prog X.w k X.stack Hg sg vs sp u s' ∧ Q vs Hg) X.xe s
section
variable {X : Cx} {pins : List (Addr × Obj)} {σ : St} {H : Hp} {s : Shared}
theorem ld_var {i : Nat} {x : Str} {pos : Pos} {v : V} {Q : Value → Shared → Prop} {E : Value → Shared → Prop} (I : Inv X pins σ H s) (hN : X.N[i]? = some x) (hv : Vis X.env.scope x) (e : σ[i]? = some (some v)) (h : ∀ u, RelV v u → Q u s)
    (hd : (x == ("__debug__" : Str)) = false := by decide) (hcd : (x == ("__classdict__" : Str)) = false := by decide) : wpAny (model X.prog X.w) X.A (eval (.Name x pos) X.env) Q E s := by
  obtain ⟨m, hn, hl⟩ := I.loc
  obtain ⟨u, r, l⟩ := hl i x v hN e hv
  rcases l with ⟨hk, hm⟩ | ⟨hk, c, hc, hcell⟩
  · exact wpAny_Name (wpAny_loadName_local I.ok.kind hk hn hm (h u r)) hd
  · exact hk.elim (fun hk => wpAny_Name (wpAny_loadName_cell I.ok.kind hk hc hcell (h u r)) hd) fun hk => wpAny_Name (wpAny_loadName_free I.ok.kind hk hc hcell (h u r) hcd) hd
/-- f(y), y a name of the block -/
theorem peu_call {CX : CXT} {f : Addr} {fd : FuncData} {ps : List Str} {sp : Sp} {E : XK} {g y : Str} {p py pos : Pos} {iy : Nat}
    (len : ∀ vs H Q E, sp vs H Q E → vs.length = ps.length)
    (F : ∀ (s : Shared) (H : Hp) (us : List Value) (vs : List V) (Q : VK), Env0 X.prog X.w X.K X.mg X.base X.A X.stack s H → BindsTo s fd ⟨us, []⟩ (ps.zip us) → Vals vs us → sp vs H Q E → codeAny (model X.prog X.w) X.A (.call (.ref f) ⟨us, []⟩) (CR CX X.stack X.prog X.w H s Q E) s)
    (hx : ∀ H s e s', CX X.stack H s E e s' → X.xe e s') (hb : Binds X.K fd ps []) (hg : Gl X g) (hm : X.mg g = some (.ref f)) (hk : PySem.W.keepIn X.K (.ref f) = true) (hN : X.N[iy]? = some y) (hv : Vis X.env.scope y)
    (hdg : (g == ("__debug__" : Str)) = false := by decide) (hd : (y == ("__debug__" : Str)) = false := by decide) (hcd : (y == ("__classdict__" : Str)) = false := by decide) :
    PEu X (.Call (.Name g p) [.Name y py] [] pos) (fun σ H Q => ∃ v, σ[iy]? = some (some v) ∧ sp [v] H Q E) := by
  refine ⟨fun pins s σ H Q I h => ?_⟩
  obtain ⟨v, e, h⟩ := h
  refine wpAny_Call_Name_kw (ld_glob I hg hm (PySem.W.callWith_K (h₀ := X.base) I.ok.mod.kin hk ?_) hdg)
  refine Calls.spliced_cons (ld_var I hN hv e (fun u r => Calls.spliced_nil ⟨I.kIn, ?_⟩) hd hcd)
  have r1 : Vals [v] [u] := .cons r .nil
  have hl : ([u] ++ []).length = ps.length := len _ _ _ _ h
  have hbb := hb s [u] I.kIn hl
  refine wpAny_call (codeAny_mono (F s H [u] [v] Q I.env0 hbb r1 h) fun r s' hq => ?_)
  match r, hq with
  | .error e, hq => exact hx H s e s' hq
  | .ok (.ret u), hq => exact hq
  | .ok .next, hq => exact False.elim hq
  | .ok .brk, hq => exact False.elim hq
  | .ok .cont, hq => exact False.elim hq
/-- o.m(), m a generator def -/
def tGen0 (C : Addr) (m : Str) (ta : TE) : TA := fun σ H Q => ta σ H fun x H1 => ∃ a dx fs, x = .ref a ∧ H1 a = some (.ins C dx fs) ∧ fs.lookup m = none ∧ Q [x] H1
theorem pgen1_meth0 {k : Nat} {f C : Addr} {fd : FuncData} {p1 m : Str} {sp : SpG1} {o : Expr} {apos pos : Pos} {ta : TE} {pl : Sem Bool} (he : PE X o ta) (c : Cls X.K C) (hm : Meth X.K C m f) (F : GFn1 X.prog X.w X.K X.mg X.base k f fd [p1] sp) (hr : Room k X.A) (hb : Binds X.K fd [p1] [])
    (ht : eval (.Call (.Attribute o m apos) [] [] pos) X.env = (do
      let ov ← eval o X.env
      standAt apos.atName
      let (f, first) ← holding [ov] (getMethod ov m pl)
      callWith pos f first (backTo pos (starEach [] X.env)) (backToKw pos (keywordEach [] X.env))) := by rfl) : PGen1 X (.Call (.Attribute o m apos) [] [] pos) k sp (tGen0 C m ta) := by
  refine ⟨fun pins s σ H Q I h => ?_⟩
  refine PySem.W.methodCall_KW (pl := pl) (thn (he.run pins s σ H _ I h) fun u s1 ⟨x, H1, I1, rx, a, dx, fs, ex, ea, l, q⟩ => ?_) ht
  subst ex
  obtain rfl : u = Value.ref a := rx
  refine getmeth_ok I1 ea c hm l (PySem.W.callWith_K0 (first := [.ref a]) I1.kIn hm.kp ?_)
  refine wpAny_call (codeAny_mono (F.run X.A X.stack s1 H1 ⟨[.ref a], []⟩ [.ref a] [.ref a] rfl hr I1.env0 (hb s1 [.ref a] I1.kIn rfl) (.cons rfl .nil)) fun r s' hq => ?_)
  match r, hq with
  | .ok (.ret u), hq => exact ⟨[.ref a], H1, s1, I1, hq, q⟩

theorem Un.but {fs ex : List Addr} {H : Hp} {h h' : Heap} (k : ∀ b, b ∉ ex → h'.get? b = h.get? b) : Un fs ex H H h h' :=
  ⟨fun b o e _ _ hx => (k b hx).trans e, fun b o e _ _ hx => ⟨o.slots, (k b hx).trans e⟩, fun _ _ _ n _ => n, fun b o e hx => ⟨o, (k b hx).trans e⟩, fun _ _ e => e, fun _ _ _ e => e, fun _ ps e => ⟨#[], by rw [e]; simp⟩⟩
theorem Un.young {fs ex : List Addr} {H H' : Hp} {h h' : Heap} (u : Un fs ex H H' h h') (y : ∀ b ∈ ex, h.objs.size ≤ b) : Un fs [] H H' h h' := by
  have n : ∀ b o, h.get? b = some o → b ∉ ex := fun b o e hb => absurd (Nat.lt_of_lt_of_le (Heap.lt_size e) (y b hb)) (Nat.lt_irrefl _)
  exact ⟨fun b o e f s _ => u.keep b o e f s (n b o e), fun b o e f s _ => u.slot b o e f s (n b o e), fun b o e f _ => u.free b o e f (n b o e), fun b o e _ => u.there b o e (n b o e), u.tups, u.frzs, u.tbls⟩
/-- what is tracked of what came between -/
theorem Un.chain {fs ex : List Addr} {H H1 H2 : Hp} {h h1 h2 : Heap} (a : Un fs [] H H1 h h1) (b : Un fs ex H1 H2 h1 h2) (y : ∀ c ∈ ex, h.objs.size ≤ c) : Un fs [] H H2 h h2 :=
  Un.young ((a.mono (fun _ z => z) fun _ z => absurd z List.not_mem_nil : Un fs ex H H1 h h1).trans b) y

/-- the block's context: as old as the generator -/
abbrev Cx.blk1 (X : Cx) (sg : Shared) (Hg : Hp) (scope : Scope) (C : Addr) : Cx := X.blk sg Hg scope (compEnvC scope [] C X.env) []
theorem blk1 {sg : Shared} {Hg : Hp} {scope : Scope} {y : Str} {iy : Nat} {C : Addr} {m : Str → Option Value} {x : V} {u : Value} (I : Inv X pins σ Hg sg) (ok : BlkOk X.N X.env.scope scope [(y, iy)]) (hN : X.N.Nodup)
    (hy : scope.names.lookup y = some .local) (hloc : ∀ p ∈ scope.names, p.2 ≠ .cell ∧ p.2 ≠ .free) (hC : sg.heap.objs.size ≤ C) (hn : H C = none) (hns : s.heap.Ns C m) (os : s.os = sg.os) (ba : AllBare s.gens) (un : Un (frs X.stack) [] Hg H sg.heap s.heap)
    (hok : HOk X.prog X.w H s.heap) (hm : m y = some u) (rv : RelV x u) : Inv (X.blk1 sg Hg scope C) [] ((wipe σ [iy]).set iy (some x)) H s := by
  have hsc : (compEnvC scope [] C X.env).scope = relS scope X.env.scope := rfl
  have only : ∀ {z k}, (relS scope X.env.scope).names.lookup z = some k → k = .cell ∨ k = .free → False := by
    intro z k hk hk'
    obtain ⟨k', e, r⟩ := lookup_relS hk
    obtain ⟨n1, n2⟩ := hloc _ (PySem.mem_of_lookup e)
    rcases r with rfl | ⟨rfl, _⟩
    · exact hk'.elim n1 n2
    · exact n2 rfl
  have okB : (X.blk1 sg Hg scope C).Ok := by
    refine ⟨I.ok.mod, ok.kind, I.ok.glob, I.ok.blt, hC, fun a b c e => (nomatch (show (none : Option Addr) = some c from e)), fun a h => ?_, fun a c _ e => (nomatch (show (none : Option Addr) = some c from e)), I.ok.hd, I.ok.frames, .inl rfl, fun b hb => absurd hb List.not_mem_nil, I.bs, Nat.le_trans I.ok.bsz I.sz,
      fun b o _ hb => absurd hb List.not_mem_nil, fun b hb => absurd hb List.not_mem_nil, I.stack, I.stkFree⟩
    exact (h.elim (fun h => only h (.inl rfl)) fun h => only h (.inr rfl)).elim
  refine ⟨okB, os, ba, un, ⟨m, hns, fun j z v e1 e2 e3 => ?_⟩, fun a c e => (nomatch (show (none : Option Addr) = some c from e)), hn, fun a c e => (nomatch (show (none : Option Addr) = some c from e)), fun p hp => absurd (show p ∈ ([] : List (Addr × Obj)) ++ [] from hp) (by simp), hok, ?_⟩
  · have hi : iy < σ.length := by rw [I.len]; exact (List.getElem?_eq_some_iff.mp (ok.ix (y, iy) List.mem_cons_self)).1
    by_cases hj : j = iy
    · subst hj
      have e0 : X.N[j]? = some y := ok.ix (y, j) List.mem_cons_self
      have e1 : X.N[j]? = some z := e1
      rw [e0] at e1; cases e1
      rw [List.getElem?_set_self (by rw [wipe_length]; exact hi)] at e2
      cases e2
      exact ⟨u, rv, .inl ⟨lookup_relabel_local hy, hm⟩⟩
    · exfalso
      have e3 : (relS scope X.env.scope).names.lookup z = some .local := by
        rcases e3 with e3 | e3 | e3
        · exact e3
        · exact (only e3 (.inl rfl)).elim
        · exact (only e3 (.inr rfl)).elim
      obtain ⟨k', e, r⟩ := lookup_relS e3
      have e : scope.names.lookup z = some .local := by
        rcases r with r | ⟨_, r⟩
        · rw [r]; exact e
        · cases r
      have e1 : X.N[j]? = some z := e1
      rcases ok.own (z, .local) (PySem.mem_of_lookup e) (.inl rfl) with q | q
      · have q : z = y := by simpa using q
        rw [q] at e1
        exact hj (nodup_ix hN e1 (ok.ix (y, iy) List.mem_cons_self))
      · exact q (List.mem_of_getElem? e1)
  · rw [List.length_set, wipe_length]; exact I.len

theorem HOk.but {P : Program} {w : World} {H : Hp} {h h' : Heap} {C : Addr} (ok : HOk P w H h) (k : ∀ b, b ≠ C → h'.get? b = h.get? b) (n : H C = none) : HOk P w H h' := fun b o e =>
  (ok b o e).stay (fun c v hc q => (k c (by
    rintro rfl
    rcases hc with rfl | hc
    · rw [n] at e; cases e
    · rw [n] at hc; cases hc)).trans q) (fun _ q => q) fun _ _ q => q
theorem peu_beside {e : Expr} {te : TE} {Q : VK} (h : PEu X e te) (hx : ∀ e s, ¬ X.xe e s) (I : Inv X pins σ H s) (q : te σ H Q) :
    wpAny (model X.prog X.w) X.A (eval e X.env) (fun u s' => Kept s.gens s'.gens ∧ CE X.stack X.prog X.w H s Q u s') (fun _ _ => False) s := by
  have hb := I.bare
  refine wpAny_mono (wpAny_beside (h.run pins (trapS s) σ H Q (I.gens_of (bare_trap hb)) q)) (fun u s' hq => ?_) fun e s' hq => ?_
  · obtain ⟨s2, rfl, t, v, H', os, ba, un, hok, rv, q'⟩ := hq
    exact ⟨kept_mend t, v, H', os, bare_mend hb ba, un, hok, rv, q'⟩
  · obtain ⟨s2, _, _, q'⟩ := hq
    exact hx e s2 q'
/-- [elt for y in a generator]: D the new list, N how many items at most -/
def tLcg (sp : SpG1) (t : TA) (te : TE) (iy : Nat) : TE := fun σ H Q => t σ H fun vs Hg => ∃ N, ∀ D, Hg D = none → ∃ Qe : Nat → Hp → Prop, (∀ i H', Qe i H' → Q (.ref D) H') ∧
  sp vs (fun _ x H1 kk => te ((wipe σ [iy]).set iy (some x)) H1 fun z H4 => ∃ acc, H4 D = some (.lst acc) ∧ acc.length < sizeLine ∧ kk (upd H4 D (.lst (acc ++ [z])))) N (upd Hg D (.lst [])) Qe
theorem pe_lcg {elt iter : Expr} {y : Str} {py : Pos} {scope : Scope} {iy : Nat} {pos : Pos} {k : Nat} {sp : SpG1} {t : TA} {te : TE} (hc : X.calm = true) (hN : X.N.Nodup) (hr : Room (k + 1) X.A) (hi : PGen1 X iter k sp t) (ok : BlkOk X.N X.env.scope scope [(y, iy)])
    (hy : scope.names.lookup y = some .local) (hloc : ∀ p ∈ scope.names, p.2 ≠ .cell ∧ p.2 ≠ .free) (hpc : ∀ h, pushCells h scope.names = h) (hce : ∀ n, cellsFrom n scope.names (cloFrom X.env.cells scope.names []) = [])
    (he : ∀ (s : Shared) (H : Hp) (C : Addr), PEu (X.blk1 s H scope C) elt te) (hs : ∀ x, foldedSetIterable iter X.env x = pure x := by intro _; rfl) :
    PE X (.ListComp elt [⟨.Name y py, iter, [], 0⟩] scope pos) (tLcg sp t te iy) := by
  refine ⟨fun pins s σ H Q I h => ?_⟩
  rw [eval_ListComp]
  refine wpAny_comprehension_free (use := none) rfl hs (closure_ok fun p hp e => absurd e (hloc p hp).2) ok.kind (fun p hp e => by rw [ok.uniq p hp, e]) (thn (hi.run pins s σ H _ I h) fun xv s1 hx => ?_)
  obtain ⟨vs, Hg, sg, Ig, ⟨a, g, c, rfl, ha1, ha2, hg, hgs, hos, hb, hl, hkp, wake⟩, M, hq⟩ := hx
  refine wpAny_pyIter_gen hg (wpAny_newObj_type (newEnv_comp ?_) (by show 0 ≤ sizeLine; decide))
  have hcalm : X.A.handled = none := Ig.ok.hd hc
  have I1 : Inv X pins σ Hg s1 := Ig.call' (ch := []) hos (Un.kept hkp) (Ig.hok.kept hkp) hb fun b z => absurd z List.not_mem_nil
  have hgl1 : g < s1.gens.size := (Array.getElem?_eq_some_iff.mp hgs).1
  generalize hD : s1.heap.objs.size = D
  have sgD : sg.heap.objs.size ≤ D := by rw [← hD]; exact Nat.le_of_lt (Nat.lt_of_le_of_lt ha1 ha2)
  have hDn : Hg D = none := Ig.hok.fresh sgD
  obtain ⟨Qe, hQe, hsp⟩ := hq D hDn
  generalize hyl : (fun (_ : Nat) (x : V) (H1 : Hp) (kk : Hp → Prop) => te ((wipe σ [iy]).set iy (some x)) H1 fun z H4 => ∃ acc, H4 D = some (.lst acc) ∧ acc.length < sizeLine ∧ kk (upd H4 D (.lst (acc ++ [z])))) = yl at hsp
  -- the new list, the block's frame
  have I3 : Inv X pins σ (upd Hg D (.lst [])) { s1 with heap := s1.heap.push { cls := .type "list", data := .seq ([] : List Value).toArray } } := by
    refine I1.laid (t' := s1.toks) (fun b o e => Heap.get?_push_of_some _ e) (Nat.le_of_eq hD) ⟨Nat.zero_le _, [], 0, .nil, ?_⟩
    rw [← hD]
    exact Heap.get?_push_size _ rfl
  generalize hs3 : ({ s1 with heap := s1.heap.push { cls := .type "list", data := .seq ([] : List Value).toArray } } : Shared) = s3 at I3
  have h3 : s3.heap = s1.heap.push { cls := .type "list", data := .seq ([] : List Value).toArray } := by rw [← hs3]
  have g3 : s3.gens = s1.gens := by rw [← hs3]
  have os3 : s3.os = s1.os := by rw [← hs3]
  generalize hC : s3.heap.objs.size = C
  have eC : C = D + 1 := by rw [← hC, h3, Heap.size_push, hD]
  have sgC : sg.heap.objs.size ≤ C := by omega
  have aC : a ≠ C := by rw [eC, ← hD]; exact Nat.ne_of_lt (Nat.lt_succ_of_lt ha2)
  have H3C : (upd Hg D (.lst [])) C = none := by rw [upd_ne (show C ≠ D by rw [eC]; exact Nat.succ_ne_self D)]; exact Ig.hok.fresh sgC
  rw [hce, hpc]
  generalize hs4 : ({ s3 with heap := s3.heap.push { cls := .type "dict", data := .dict #[] } } : Shared) = s4
  have h4 : s4.heap = s3.heap.push { cls := .type "dict", data := .dict #[] } := by rw [← hs4]
  have kp14 : ∀ b o, s1.heap.get? b = some o → s4.heap.get? b = some o := fun b o e => by rw [h4, h3]; exact Heap.get?_push_of_some _ (Heap.get?_push_of_some _ e)
  have ns4 : s4.heap.Ns C (fun _ => none) := by
    rw [h4, ← hC]; exact Heap.Ns.new ..
  have lok : ∀ {s' : Shared} {m : Str → Option Value}, s'.heap.Ns C m → LOk [C] s' := fun {s' m} ⟨o, es, ep, e, d, _⟩ b hb => by
    rw [List.mem_singleton.mp hb]
    exact ⟨o, e, fun v z => by rw [d] at z; cases z⟩
  have ha4 : s4.heap.IsGen a g := hg.keeps kp14
  have hgs4 : s4.gens[g]? = some (.fresh c) := by rw [← hs4]; show s3.gens[g]? = _; rw [g3]; exact hgs
  have hHa : Hg a = none := Ig.hok.fresh ha1
  have aD : a ≠ D := by rw [← hD]; exact Nat.ne_of_lt ha2
  have notF : ∀ b, sg.heap.objs.size ≤ b → b ∉ frs X.stack := fun b hb hm => by
    obtain ⟨_, o, ho, _⟩ := Ig.stack.mem hm
    exact absurd (Nat.lt_of_lt_of_le (Heap.lt_size ho) hb) (Nat.lt_irrefl _)
  have unG4 : Un (frs X.stack) [] Hg (upd Hg D (.lst [])) s1.heap s4.heap := Un.laid kp14 (Nat.le_of_eq hD) hDn
  have hok4 : HOk X.prog X.w (upd Hg D (.lst [])) s4.heap := I3.hok.kept fun b o e => by rw [h4]; exact Heap.get?_push_of_some _ e
  have bare4 : AllBare s4.gens := by rw [← hs4]; show AllBare s3.gens; rw [g3]; exact hb
  have os4 : s4.os = sg.os := by rw [← hs4]; show s3.os = _; rw [os3]; exact hos
  have go4 : (GenState.fresh c).Goes (model X.prog X.w) X.A.in1 (ROut X.prog X.w X.stack Hg sg [C] Qe) (YOut X.prog X.w X.stack Hg sg a g M [C] yl) M (.send .none) (s4.setGen g .running) := by
    refine ⟨rfl, wake X.A.in1 M [C] yl _ Qe _ hr.in1 I.ok.frames (fun b hb => ?_) (fun b hb => ?_) (lok ns4) (by rw [upd_ne aD]; exact hHa) unG4 hok4 os4 (allBare_setGen bare4 rfl) hsp⟩
    · rw [List.mem_singleton.mp hb, eC, ← hD]; exact Nat.le_succ _
    · rw [List.mem_singleton.mp hb]; exact H3C
  show codeAny _ _ (.compStart (.ListComp elt [⟨.Name y py, iter, [], 0⟩] scope pos) 0 (.ref a) (.ref D) (compEnvC scope [] C X.env)) (compPost (model X.prog X.w) X.A X.xe none (EP X pins σ Q) (.ref D) C) s4
  let LI : Nat → Shared → Prop := fun n s' => s'.heap.IsGen a g ∧ s'.heap.NoLimit ∧ (∃ m, s'.heap.Ns C m) ∧ ∃ gs, s'.gens[g]? = some gs ∧
    gs.Goes (model X.prog X.w) X.A.in1 (ROut X.prog X.w X.stack Hg sg [C] Qe) (YOut X.prog X.w X.stack Hg sg a g M [C] yl) n (.send .none) (s'.setGen g .running)
  have loop : codeAny (model X.prog X.w) X.A (.compLoop (.ListComp elt [⟨.Name y py, iter, [], 0⟩] scope pos) 0 (.ref a) (.ref D) (compEnvC scope [] C X.env)) (compPost (model X.prog X.w) X.A X.xe none (EP X pins σ Q) (.ref D) C) s4 := by
    refine compLoop_any LI (fun n s5 hLI => ?_) M ⟨ha4, hl.keeps kp14, ⟨_, ns4⟩, _, hgs4, go4⟩
    obtain ⟨hg5, nl5, ⟨m5, ns5⟩, gs, hgs5, go5⟩ := hLI
    have hgl : g < s5.gens.size := (Array.getElem?_eq_some_iff.mp hgs5).1
    refine wpAny_gsz (n := g + 1) hgl (next_genG (A := X.A) hcalm nl5 hr.depth hg5 hgs5 go5 (fun v s6 gs' hbare hY => ?_) (fun s6 hP h' hk _ => ?_) fun e s6 he => he.elim)
    · -- an item
      intro hsz
      have hsz6 : g < s6.gens.size := by
        have q : (s6.setGen g gs').gens.size = s6.gens.size := setGen_size _ _ _
        have hsz : g + 1 ≤ (s6.setGen g gs').gens.size := hsz
        omega
      obtain ⟨i, x, H1, kk, hn, rv, os6, ba6, nl6, ig6, haH, un6, hok6, pn6, yl6, back⟩ := hY
      obtain ⟨oC, es, ep, hoC, rC⟩ := id ns5
      have zC := pn6 (C, oC) (mem_pinsAt (List.mem_singleton.mpr rfl) hoC)
      have ns6 : s6.heap.Ns C m5 := ns5.at' fun o e => by rw [hoC] at e; cases e; exact zC.1
      have hC6 : H1 C = none := zC.2
      refine wpAny_pure (wpAny_assign_Name (wpAny_storeName_local (lookup_relabel_local hy) (show (s6.setGen g gs').heap.Ns (compEnvC scope [] C X.env).locals m5 from ns6) (fun h7 ns7 sb7 => ?_) (by show (scope.kind == .class || (scope.kind == .module && _)) = false; rw [ok.kind]; rfl)))
      refine wpAny_tests_nil ?_
      rw [if_pos rfl]
      have sb7' : ∀ b, b ≠ C → h7.get? b = s6.heap.get? b := fun b hb => sb7.2 b hb
      have gs7 : (s6.setGen g gs').gens[g]? = some gs' := setGen_at hsz6
      have I7 := blk1 (s := { s6.setGen g gs' with heap := h7, toks := s6.toks + 1 }) Ig ok hN hy hloc sgC hC6 ns7 os6 (allBare_setGen ba6 hbare) (un6.chain (Un.but (ex := [C]) fun b hb => sb7' b (by simpa using hb)) fun b hb => by rw [List.mem_singleton.mp hb]; exact sgC) (hok6.but sb7' hC6) (if_pos rfl) rv
      have yl7 : te ((wipe σ [iy]).set iy (some x)) H1 fun z H4 => ∃ acc, H4 D = some (.lst acc) ∧ acc.length < sizeLine ∧ kk (upd H4 D (.lst (acc ++ [z]))) := by rw [← hyl] at yl6; exact yl6
      refine wpAny_mono (peu_beside (he sg Hg C) (fun _ _ z => z) I7 yl7) (fun uz s8 h8 => ?_) fun _ _ q => q.elim
      obtain ⟨kept8, z, H4, os8, ba8, un8, hok8, rz, acc, hD8, hlen8, k8⟩ := h8
      have I8 : Inv (X.blk1 sg Hg scope C) [] ((wipe σ [iy]).set iy (some x)) H4 s8 := I7.call' (ch := []) os8 un8 hok8 ba8 fun b q => absurd q List.not_mem_nil
      obtain ⟨hz8, its, nn, ri, e8⟩ := hok8 D _ hD8
      refine append_at (hsz := by rw [List.size_toArray, ← ri.length]; omega) e8 fun h9 sb9 ho9 => ?_
      have I9 : Inv (X.blk1 sg Hg scope C) [] ((wipe σ [iy]).set iy (some x)) (upd H4 D (.lst (acc ++ [z]))) { s8 with heap := h9 } :=
        I8.write (t' := s8.toks) (by rw [hD8]; trivial) (.inl rfl) (fun b u hb q => (sb9.2 b hb).trans q) ⟨_, ho9⟩ ⟨by rw [List.length_append]; exact hlen8, its ++ [uz], nn + 1, ri.append (.cons rz .nil), by rw [ho9]; simp⟩
      have un9 : Un (frs X.stack) [C] H1 (upd H4 D (.lst (acc ++ [z]))) s6.heap h9 :=
        ((Un.but fun b hb => sb7' b (by simpa using hb) : Un (frs X.stack) [C] H1 H1 s6.heap h7).trans (un8.mono (fun _ q => q) fun _ q => absurd q List.not_mem_nil)).trans
          (Un.write (by rw [hD8]; trivial) (.inl rfl) (fun b u hb q => (sb9.2 b hb).trans q) ⟨_, ho9⟩)
      obtain ⟨m9, ns9, _⟩ := I9.loc
      have hlok9 : LOk [C] { s8 with heap := h9 } := lok (s' := { s8 with heap := h9 }) ns9
      have z9 := back (({ s8 with heap := h9 } : Shared).setGen g .running) (upd H4 D (.lst (acc ++ [z]))) os8 (allBare_setGen ba8 rfl) un9 I9.hok hlok9 (fun b hb => by rw [List.mem_singleton.mp hb]; exact I9.free) k8
      have ig9 : h9.IsGen a g := by
        obtain ⟨o, nm, qn, ho, r⟩ := ig6
        exact ⟨o, nm, qn, un9.keep a o ho haH (notF a ha1) (by rw [List.mem_singleton]; exact aC), r⟩
      cases n with
      | zero => exact False.elim z9.1
      | succ n =>
        refine ⟨n, Nat.lt_succ_self n, ig9, I9.nolimit, ⟨m9, ns9⟩, gs', ?_, z9.1⟩
        refine kept8 g gs' gs7 ?_
        cases gs' with
        | suspended => rfl
        | fresh c' =>
          have q := z9.2.1
          cases q
        | running => exact z9.1.elim
        | finished => exact z9.1.elim
    · -- its end
      obtain ⟨i, H', os6, ba6, un6, hok6, pn6, q6⟩ := hP
      obtain ⟨oC, es, ep, hoC, rC⟩ := id ns5
      have zC := pn6 (C, oC) (mem_pinsAt (List.mem_singleton.mpr rfl) hoC)
      have ns6 : h'.Ns C m5 := ns5.at' fun o e => by rw [hoC] at e; cases e; exact hk _ _ zC.1
      have I6 : Inv X pins σ H' { s6.setGen g .finished with heap := h' } := Ig.call' (ch := []) os6 (un6.trans (Un.kept hk)) (hok6.kept hk) (allBare_setGen ba6 rfl) fun b z => absurd z List.not_mem_nil
      obtain ⟨f0, f1, f2, f3, f4, f5⟩ := Ig.fpOk (H' := H') sgC zC.2
      refine ⟨m5, ns6, fun h'' sb => ⟨.ref D, H', I6.turned (t' := s6.toks) (fun b o hb e => (sb.2 b hb).trans e) f0 f1 f3 f4 f5, rfl, hQe i H' q6⟩⟩
  exact codeAny_compStart_list loop (wpAny_pyIter_gen ha4 loop)
end
end L2

end

section
local macro_rules | `(tactic| walk_at "ne") => `(tactic| first | assumption | (apply Ne.symm; assumption) | exact L2.ne_of_none (by assumption) (by assumption) | exact (L2.ne_of_none (by assumption) (by assumption)).symm)
local macro_rules | `(tactic| walk_at "hp") => `(tactic| first | assumption | exact L2.upd_same | (rw [L2.upd_ne (by walk_at "ne")]; walk_at "hp"))
local macro_rules | `(tactic| walk_at "sq") => `(tactic| first | assumption | exact L2.SqL.of (by walk_at "hp") | exact My.sq_new (by walk_at "sq") (by assumption))
local macro_rules | `(tactic| walk_at "sd") => `(tactic| first | decide | omega | (unfold L2.CDivN; omega) | (unfold L2.CMul; omega) | (unfold L2.CPow; omega))
local macro_rules | `(tactic| walk_at "sx1") => `(tactic| first | with_reducible refine My.x_seq ?_ | with_reducible refine My.x_asg ?_ | with_reducible refine My.x_ret ?_ | with_reducible refine My.x_next ?_ | with_reducible refine My.x_op ?_ | with_reducible refine My.x_c ?_ | with_reducible refine My.x_ifs ?_ | with_reducible refine My.x_test ?_ | with_reducible refine My.x_exbl ?_ | with_reducible refine My.x_cons ?_ | with_reducible refine My.x_nil ?_ | with_reducible refine My.x_cb ?_ | with_reducible refine My.x_drop ?_ | with_reducible refine My.x_par ?_ | with_reducible refine My.x_exp2 ?_ | with_reducible refine My.x_aug ?_ | with_reducible refine My.x_if ?_ | with_reducible refine My.x_tB ?_ | with_reducible refine My.x_and ?_ | with_reducible refine My.x_or ?_ | with_reducible refine My.x_not ?_ | with_reducible refine My.x_retn ?_ | with_reducible refine My.x_cont ?_ | with_reducible refine My.x_brk ?_ | with_reducible refine My.x_un ?_ | with_reducible refine My.x_tfor ?_ | with_reducible refine My.x_ilist ?_ | with_reducible refine My.x_rng1 ?_ | with_reducible refine My.x_rng2 ?_ | with_reducible refine My.x_r1 ?_ | with_reducible refine My.x_call ?_ | with_reducible refine My.x_sl ?_ | with_reducible refine My.x_part ?_ | with_reducible refine My.x_nopart ?_ | with_reducible refine My.x_ii0 ?_ | with_reducible refine My.x_yes ?_ | with_reducible refine My.x_andv ?_ | with_reducible refine My.x_orv ?_ | with_reducible refine My.x_notv ?_ | with_reducible refine My.x_iT ?_ | with_reducible refine My.x_iF ?_ | with_reducible refine My.x_chain ?_ | with_reducible refine My.x_exI ?_ | with_reducible refine My.x_wipe ?_ | with_reducible refine My.x_bm ?_ | with_reducible refine My.x_bm0 ?_ | with_reducible refine My.x_gsub ?_ | with_reducible refine My.x_int1 ?_ | with_reducible refine My.x_two ?_ | with_reducible refine My.x_lst ?_ | with_reducible refine My.x_tup ?_ | with_reducible refine My.x_revL ?_ | with_reducible refine My.x_dput ?_ | with_reducible refine My.x_dget ?_ | with_reducible refine My.x_dnew ?_ | with_reducible refine My.x_dc ?_ | with_reducible refine My.x_lc ?_ | with_reducible refine My.x_ienum ?_ | with_reducible refine My.x_gcons ?_ | with_reducible refine My.x_gnil ?_ | with_reducible refine My.x_v0 ?_ | with_reducible refine My.x_v1 ?_ | with_reducible refine My.x_v2 ?_ | with_reducible refine My.x_v3 ?_ | with_reducible refine My.x_v4 ?_ | with_reducible refine My.x_v5 ?_ | with_reducible refine My.x_v6 ?_ | with_reducible refine My.x_v7 ?_ | with_reducible refine My.x_v8 ?_ | with_reducible refine My.x_v9 ?_ | with_reducible refine My.x_v10 ?_ | with_reducible refine My.x_v11 ?_ | with_reducible refine My.x_v12 ?_ | with_reducible refine My.x_v13 ?_ | with_reducible refine My.x_v14 ?_ | with_reducible refine My.x_v15 ?_ | with_reducible refine My.x_v16 ?_ | with_reducible refine My.x_v17 ?_ | with_reducible refine My.x_v18 ?_ | with_reducible refine My.x_v19 ?_ | with_reducible refine My.x_v20 ?_ | with_reducible refine My.x_v21 ?_ | with_reducible refine My.x_v22 ?_ | with_reducible refine My.x_v23 ?_ | with_reducible refine My.x_v24 ?_ | with_reducible refine My.x_v25 ?_ | with_reducible refine My.x_g0 ?_ | with_reducible refine My.x_g1 ?_ | with_reducible refine My.x_g2 ?_ | with_reducible refine My.x_g3 ?_ | with_reducible refine My.x_g4 ?_ | with_reducible refine My.x_g5 ?_ | with_reducible refine My.x_g6 ?_ | with_reducible refine My.x_g7 ?_ | with_reducible refine My.x_g8 ?_ | with_reducible refine My.x_g9 ?_ | with_reducible refine My.x_g10 ?_ | with_reducible refine My.x_g11 ?_ | with_reducible refine My.x_g12 ?_ | with_reducible refine My.x_g13 ?_ | with_reducible refine My.x_g14 ?_ | with_reducible refine My.x_g15 ?_ | with_reducible refine My.x_g16 ?_ | with_reducible refine My.x_g17 ?_ | with_reducible refine My.x_g18 ?_ | with_reducible refine My.x_g19 ?_ | with_reducible refine My.x_g20 ?_ | with_reducible refine My.x_g21 ?_ | with_reducible refine My.x_g22 ?_ | with_reducible refine My.x_g23 ?_ | with_reducible refine My.x_g24 ?_ | with_reducible refine My.x_g25 ?_)
local macro_rules | `(tactic| walk_at "sx") => `(tactic| repeat (walk_at "sx1"))
local macro_rules | `(tactic| walk_at "ln") => `(tactic| first | assumption | exact Nat.le_of_ble_eq_true rfl | (simp only [List.length_append, List.length_map, List.length_cons, List.length_nil]; simp only [PySem.sizeLine]; omega))
local macro_rules | `(tactic| walk_at "st") => `(tactic| first | assumption | exact L2.SqT.of (by walk_at "hp"))
local macro_rules | `(tactic| walk_at "go1") => `(tactic| first | walk_at "sx1" | ((with_reducible refine' My.x_ixL ?x0 ?x1 ?x2); (case x0 => walk_at "sq"); (case x1 => exact rfl)) | ((with_reducible refine' My.x_ixT ?x0 ?x1 ?x2); (case x0 => walk_at "st"); (case x1 => exact rfl)) | ((with_reducible refine' My.x_i ?x0 ?x1); (case x0 => walk_at "sd")) | ((with_reducible refine' My.x_setL ?x0 ?x1 ?x2); (case x0 => walk_at "hp"); (case x1 => exact rfl)) | ((with_reducible refine' My.x_len ?x0 ?x1); (case x0 => walk_at "sq")) | ((with_reducible refine' My.x_lenT ?x0 ?x1); (case x0 => walk_at "st")) | ((with_reducible refine' My.x_lenD ?x0 ?x1); (case x0 => walk_at "hp")) | ((with_reducible refine' My.x_append ?x0 ?x1 ?x2); (case x0 => walk_at "hp"); (case x1 => walk_at "ln")) | ((with_reducible refine' My.x_tyL ?x0 ?x1); (case x0 => walk_at "hp")) | ((with_reducible refine' My.x_ilistE ?x0 ?x1); (case x0 => walk_at "sq")) | ((with_reducible refine' My.x_ienumE ?x0 ?x1); (case x0 => walk_at "sq")) | ((with_reducible refine' My.x_sortI ?x0 ?x1); (case x0 => walk_at "sq")) | ((with_reducible refine' My.x_slL ?x0 ?x1); (case x0 => walk_at "sq")) | ((with_reducible refine' My.x_revL2 ?x0 ?x1); (case x0 => walk_at "sq")) | ((with_reducible refine' My.x_eq ?x0 ?x1); (case x0 => exact rfl)) | ((with_reducible refine' My.x_ne ?x0 ?x1); (case x0 => exact rfl)) | ((with_reducible refine' My.x_dputI ?x0 ?x1 ?x2); (case x0 => walk_at "hp"); (case x1 => walk_at "ln")) | ((with_reducible refine' My.x_dputS ?x0 ?x1 ?x2); (case x0 => walk_at "hp"); (case x1 => walk_at "ln")) | ((with_reducible refine' My.x_seqof ?x0 ?x1); (case x0 => walk_at "sq")) | ((with_reducible refine' My.x_gtup ?x0 ?x1 ?x2); (case x0 => walk_at "st"); (case x1 => exact rfl)) | ((with_reducible refine' My.x_mem1 ?x0 ?x1); (case x0 => walk_at "ln")))
local macro_rules | `(tactic| walk_at "go") => `(tactic| repeat (walk_at "go1"))
local macro_rules | `(tactic| walk_at "sx1") => `(tactic| first | with_reducible refine My.x_gx ?_ | with_reducible refine My.x_gxK ?_ | with_reducible refine My.x_gi ?_ | with_reducible refine My.x_gst ?_ | with_reducible refine My.x_xg ?_ | with_reducible refine My.x_nF ?_ | with_reducible refine My.x_nT ?_ | with_reducible refine My.x_fld ?_ | with_reducible refine My.x_sfld ?_ | with_reducible refine My.x_meth ?_ | with_reducible refine My.x_make ?_ | with_reducible refine My.x_din ?_ | with_reducible refine My.x_dnin ?_ | with_reducible refine My.x_ikeys ?_ | with_reducible refine My.x_itup ?_ | with_reducible refine My.x_mkO ?_ | with_reducible refine My.x_vei ?_ | with_reducible refine My.x_ost ?_ | with_reducible refine My.x_nF ?_ | with_reducible refine My.x_nT ?_)
local macro_rules | `(tactic| walk_at "go1") => `(tactic| first | ((with_reducible refine' My.x_fldE ?x0 ?x1 ?x2 ?x3 ?x4); (case x0 => walk_at "hp"); (case x1 => assumption); (case x2 => assumption); (case x3 => exact rfl)) | ((with_reducible refine' My.x_sfldE ?x0 ?x1 ?x2 ?x3 ?x4 ?x5); (case x0 => walk_at "hp"); (case x1 => assumption); (case x2 => assumption); (case x3 => decide); (case x4 => exact rfl)) | ((with_reducible refine' My.x_methE ?x0 ?x1 ?x2); (case x0 => walk_at "hp"); (case x1 => exact rfl)) | ((with_reducible refine' My.x_itupE ?x0 ?x1); (case x0 => walk_at "st")))
namespace K01
open PySem PySem.Spec PyProof.Rows L2
theorem sc_is_between : FnScope ["value", "least", "most"] ["value", "least", "most"] (defScope s_is_between) := ⟨rfl, rfl, rfl, by decide +kernel, rfl, by decide +kernel, by decide +kernel⟩
theorem sc_is_text : FnScope ["value", "most", "sign"] ["value", "most"] (defScope s_is_text) := ⟨rfl, rfl, rfl, by decide +kernel, rfl, by decide +kernel, by decide +kernel⟩
theorem sc_has_only : FnScope ["values", "most", "value"] ["values", "most"] (defScope s_has_only) := ⟨rfl, rfl, rfl, by decide +kernel, rfl, by decide +kernel, by decide +kernel⟩
theorem sc_Disk_init : FnScope ["self", "size"] ["self", "size"] (defScope s_Disk_init) := ⟨rfl, rfl, rfl, by decide +kernel, rfl, by decide +kernel, by decide +kernel⟩
theorem sc_Disk_size : FnScope ["self"] ["self"] (defScope s_Disk_size) := ⟨rfl, rfl, rfl, by decide +kernel, rfl, by decide +kernel, by decide +kernel⟩
theorem sc_Disk_pending : FnScope ["self", "block", "text"] ["self"] (defScope s_Disk_pending) := ⟨rfl, rfl, rfl, by decide +kernel, rfl, by decide +kernel, by decide +kernel⟩
theorem sc_Disk_len : FnScope ["self"] ["self"] (defScope s_Disk_len) := ⟨rfl, rfl, rfl, by decide +kernel, rfl, by decide +kernel, by decide +kernel⟩
theorem sc_Disk_require : FnScope ["self", "block"] ["self", "block"] (defScope s_Disk_require) := ⟨rfl, rfl, rfl, by decide +kernel, rfl, by decide +kernel, by decide +kernel⟩
theorem sc_Disk_getitem : FnScope ["self", "block"] ["self", "block"] (defScope s_Disk_getitem) := ⟨rfl, rfl, rfl, by decide +kernel, rfl, by decide +kernel, by decide +kernel⟩
theorem sc_Disk_use_power : FnScope ["self"] ["self"] (defScope s_Disk_use_power) := ⟨rfl, rfl, rfl, by decide +kernel, rfl, by decide +kernel, by decide +kernel⟩
theorem sc_Disk_write : FnScope ["self", "block", "text"] ["self", "block", "text"] (defScope s_Disk_write) := ⟨rfl, rfl, rfl, by decide +kernel, rfl, by decide +kernel, by decide +kernel⟩
theorem sc_Disk_flush : FnScope ["self", "block", "text"] ["self"] (defScope s_Disk_flush) := ⟨rfl, rfl, rfl, by decide +kernel, rfl, by decide +kernel, by decide +kernel⟩
theorem sc_Disk_lose : FnScope ["self", "block", "other", "text"] ["self", "block"] (defScope s_Disk_lose) := ⟨rfl, rfl, rfl, by decide +kernel, rfl, by decide +kernel, by decide +kernel⟩
theorem sc_Disk_crashed : FnScope ["self", "kept", "torn", "places", "other", "place", "block", "text"] ["self", "kept", "torn"] (defScope s_Disk_crashed) := ⟨rfl, rfl, rfl, by decide +kernel, rfl, by decide +kernel, by decide +kernel⟩
theorem sc_Disk_copy : FnScope ["self", "other"] ["self"] (defScope s_Disk_copy) := ⟨rfl, rfl, rfl, by decide +kernel, rfl, by decide +kernel, by decide +kernel⟩
theorem sc_Disk_eq : FnScope ["self", "other"] ["self", "other"] (defScope s_Disk_eq) := ⟨rfl, rfl, rfl, by decide +kernel, rfl, by decide +kernel, by decide +kernel⟩
theorem sc_law_pool : FnScope ["_law_script", "_law_k", "_law_cell", "_law_seed"] ["_law_script", "_law_k"] (defScope s_law_pool) := ⟨rfl, rfl, rfl, by decide +kernel, rfl, by decide +kernel, by decide +kernel⟩
theorem sc_law_draw : FnScope ["_law_pool_here", "_law_many", "_law_digit"] ["_law_pool_here", "_law_many"] (defScope s_law_draw) := ⟨rfl, rfl, rfl, by decide +kernel, rfl, by decide +kernel, by decide +kernel⟩
theorem sc_law_choose : FnScope ["_law_pool_here", "_law_items"] ["_law_pool_here", "_law_items"] (defScope s_law_choose) := ⟨rfl, rfl, rfl, by decide +kernel, rfl, by decide +kernel, by decide +kernel⟩
theorem sc_law_held : FnScope ["_law_disk", "_law_block"] ["_law_disk"] (defScope s_law_held) := ⟨rfl, rfl, rfl, by decide +kernel, rfl, by decide +kernel, by decide +kernel⟩
theorem sc_law_after : FnScope ["_law_safe", "_law_queue", "_law_stay", "_law_rip", "_law_found", "_law_place"] ["_law_safe", "_law_queue", "_law_stay", "_law_rip"] (defScope s_law_after) := ⟨rfl, rfl, rfl, by decide +kernel, rfl, by decide +kernel, by decide +kernel⟩
theorem sc_law_check_losses : FnScope ["_law_pool_here", "_law_disk", "_law_safe", "_law_queue", "_law_spots", "_law_place", "_law_stay", "_law_rip", "_law_other", "_law_copy", "_law_found", "_law_chosen", "_law_due", "_law_some", "_law_one"] ["_law_pool_here", "_law_disk", "_law_safe", "_law_queue"] (defScope s_law_check_losses) := ⟨rfl, rfl, rfl, by decide +kernel, rfl, by decide +kernel, by decide +kernel⟩
theorem sc_law : FnScope ["_law_script", "_law_k", "_law_pool_here", "_law_size", "_law_disk", "_law_safe", "_law_queue", "_law_turn", "_law_block", "_law_text", "_law_way", "_law_now", "_law_row"] ["_law_script"] (defScope s_law) := ⟨rfl, rfl, rfl, by decide +kernel, rfl, by decide +kernel, by decide +kernel⟩
abbrev Fd (K : PySem.W.Frag) (d : He.DefD) (fd : FuncData) : Prop := FunD K d.name d.qual d.params d.body d.scope (d.dvs K) (d.kws K) (He.fAd K d.at_) fd
/-- the module's names, the class -/
structure Tx (K : PySem.W.Frag) (mg : Str → Option Value) (t1 t2 : Tok) : Prop where
  n_len : mg "len" = none
  n_int : mg "int" = none
  n_bool : mg "bool" = none
  n_str : mg "str" = none
  n_list : mg "list" = none
  n_tuple : mg "tuple" = none
  n_max : mg "max" = none
  n_min : mg "min" = none
  n_range : mg "range" = none
  n_enumerate : mg "enumerate" = none
  n_isinstance : mg "isinstance" = none
  n_all : mg "all" = none
  n_repr : mg "repr" = none
  n_sorted : mg "sorted" = none
  g_Disk : mg "Disk" = some (.ref (He.ga K "Disk"))
  g_MAX_BLOCKS : mg "MAX_BLOCKS" = some (.int 1000 t1)
  g_MAX_SIGNS : mg "MAX_SIGNS" = some (.int 4000 t2)
  cls : Cls K (CD K)
  nb : NoAttr K (CD K) "own_blocks"
  ns : NoAttr K (CD K) "own_shown"
  nq : NoAttr K (CD K) "own_queue"
  nl : NoAttr K (CD K) "own_left"
  et1 : ∀ H, SqT K H (etN "kept" K) []
  et2 : ∀ H, SqT K H (etN "torn" K) []
  iD : PySem.W.kitOne K (.ref (CD K)) (.ref (CD K)) = some true
  iI : PySem.W.kitOne K (.type "int") (.ref (CD K)) = some false
  iL : PySem.W.kitOne K (.type "list") (.ref (CD K)) = some false
  tD : ∀ (H : Hp) (a dx : Addr) (fs : List (Str × V)), H a = some (.ins (CD K) dx fs) → TyX K H (.ref a) (.ref (CD K))
  sI : PySem.W.subIn K (.type "int") (.ref (CD K)) = some false
  sL : PySem.W.subIn K (.type "list") (.ref (CD K)) = some false
  dob : PySem.W.mroIn K (CD K) (.type "object") = some true
  dne : PySem.W.findIn K (.ref (CD K)) "__ne__" = some (some (.builtin "object.__ne__"))
/-- a statement that is not reached -/
def tNever : TS := fun _ _ _ => False
theorem ps_never {X : Cx} {st : Stmt} : PS X st tNever := ⟨fun _ _ _ _ _ _ h => h.elim⟩
/-- a property, as its users need it -/
structure Pr (P : Program) (w : World) (K : PySem.W.Frag) (mg : Str → Option Value) (base : Heap) (x f : Str) (ps : List Str) (k : Nat) (sp : Sp) : Prop where
  ex : ∃ p g fd, PropOf K (He.ga K x) f p g ∧ FnOk P w K mg base CX0 k g fd ps sp ∧ Binds K fd ps []
  cl : Cls K (He.ga K x)
theorem pe_pr {X : Cx} {x f : Str} {ps : List Str} {k : Nat} {sp : Sp} {e : Expr} {ta : TE} {pos : Pos} (C : Pr X.prog X.w X.K X.mg X.base x f ps k sp) (hr : Room (k + 1) X.A) (he : PE X e ta) (hab : attributeBase e f X.env (eval e X.env) = eval e X.env) :
    PE X (.Attribute e f pos) (tProp (He.ga X.K x) sp [] E0 ta) := by
  obtain ⟨p, g, fd, hp, F, b⟩ := C.ex
  exact pe_prop he C.cl hp F hr b .nil pass0 hab
theorem pg_tupK {X : Cx} {K : PySem.W.Frag} {es : List Expr} {k : Nat} {t : TGs} {n : Nat} {pos : Pos} (hK : X.K = K) (hc : X.calm = true) (h : PGs X es t)
    (hn : (assignEach es X.env).length = n := by rfl) (hst : (assignEach es X.env).findIdx? (·.1) = none := by rfl) : PG X (.Tuple es k pos) (gTup K n t) := by
  subst hK
  exact pg_tup hc h hn hst
theorem op_le_str {X : Cx} : OpR X (compareOp .LtE) (fun x y H Q => ∃ i j : Str, x = .str i ∧ y = .str j ∧ Q (.bl (!decide (j.cps.toList < i.cps.toList))) H) := by
  intro pins s σ H x y v u Q I rx ry h
  obtain ⟨i, j, rfl, rfl, q⟩ := h
  obtain ⟨t, rfl⟩ := rx
  obtain ⟨t', rfl⟩ := ry
  exact PySem.P.le_str (fin_bl I q rfl)
def sp_betw : Sp := fun vs H Q _ => ∃ i l m : Int, vs = [.int i, .int l, .int m] ∧ Q (.bl (decide (l ≤ i ∧ i ≤ m))) H
/-- a sign that can be printed -/
def okS (c : Nat) : Bool := !decide ([c] < [32]) && !decide ([126] < [c])
def okT (z : Str) : Bool := decide ((z.length : Int) ≤ 4000) && z.cps.toList.all okS
def sp_text : Sp := fun vs H Q _ => ∃ z : Str, vs = [.str z, .int 4000] ∧ okT z = true ∧ ∀ H', Same H H' → Q (.bl true) H'
/-- a list or a tuple of numbers -/
def Ints (K : PySem.W.Frag) (H : Hp) (x : V) (is : List Int) : Prop := ∃ a, x = .ref a ∧ (SqL K H a (is.map V.int) ∨ SqT K H a (is.map V.int))
def sp_only (K : PySem.W.Frag) : Sp := fun vs H Q _ => ∃ (x : V) (is : List Int) (m : Int), vs = [x, .int m] ∧ Ints K H x is ∧ is.length ≤ 1000 ∧ (∀ i ∈ is, 0 ≤ i ∧ i ≤ m - 1) ∧ ∀ H', Same H H' → Q (.bl true) H'
theorem kitLT {K : PySem.W.Frag} : PySem.W.kitAny K (.type "tuple") [.type "list", .type "tuple"] = some true := kitAny_cons (b := false) (kit_ty (by decide +kernel)) (fun _ => kitAny_cons (b := true) (by rfl) (fun z => nomatch z) fun _ => rfl) fun z => nomatch z
theorem seqT {K : PySem.W.Frag} {H H' : Hp} {a : Addr} {xs : List V} (s : Same H H') (h : SqT K H a xs) : SqT K H' a xs := h.imp (fun h => h.imp (s _ _) fun ⟨o, e⟩ => ⟨o, s _ _ e⟩) id
theorem clsLT : Paired ClsV [V.ty "list", .ty "tuple"] [.type "list", .type "tuple"] := .cons (.ty _) (.cons (.ty _) .nil)
section
variable {P : Program} {w : World} {K : PySem.W.Frag} {mg : Str → Option Value} {base : Heap} {t1 t2 : Tok}
theorem ok_betw (T : Tx K mg t1 t2) {fd : FuncData} (F : Fd K d_is_between fd) : FnOk P w K mg base CX0 1 (He.fAd K d_is_between.at_) fd ["value", "least", "most"] sp_betw := by
  refine F.ok sc_is_between (fun vs H Q E h => ?_) (fun cdv A outer s H vs Q E hr h => ?_)
  · obtain ⟨i, l, m, rfl, _⟩ := h
    rfl
  · obtain ⟨i, l, m, rfl, q⟩ := h
    refine ⟨_, PSs.nox ((pss_one (ps_ret (pe_and (pe_callB call_isi (by rfl) T.n_isinstance (by decide +kernel) (pa_cons (pv 0) (pa_cons (pe_bltn (v := .ty "int") rfl T.n_int (by decide +kernel) rfl) pa_nil))) (pe_and (pe_not (pe_callB call_isi (by rfl) T.n_isinstance (by decide +kernel) (pa_cons (pv 0) (pa_cons (pe_bltn (v := .ty "bool") rfl T.n_bool (by decide +kernel) rfl) pa_nil)))) (pe_one (pe_chain op_le op_le (pv 1) (pv 0) (pv 2)))))))), ?_⟩
    refine My.x_start (σ := [some (V.int i), some (V.int l), some (V.int m)]) rfl ?_
    try dsimp only [cxOf, Cx.nox]
    walk_at "go"
    refine My.x_isi (.ty "int") (.base (.int i)) (b := true) (kit_ty (by decide +kernel)) ?_
    walk_at "go"
    refine My.x_isi (.ty "bool") (.base (.int i)) (b := false) (kit_ty (by decide +kernel)) ?_
    walk_at "go"
    refine My.x_dec (fun h1 => ?_) (fun h1 => ?_)
    · walk_at "go"
      have e : decide (i ≤ m) = decide (l ≤ i ∧ i ≤ m) := decide_eq_decide.mpr ⟨fun z => ⟨h1, z⟩, fun z => z.2⟩
      rw [e]
      exact q
    · have e : false = decide (l ≤ i ∧ i ≤ m) := (decide_eq_false fun z => h1 z.1).symm
      rw [e]
      exact q
/-- a comprehension of truths so far -/
def Pl {α : Type} (H0 : Hp) (D : Addr) (f : α → Bool) (pre : List α) (H : Hp) : Prop := Same H0 H ∧ H D = some (.lst ((pre.map f).map V.bl)) ∧ H0 D = none
theorem Pl.zero {α : Type} {H0 : Hp} {D : Addr} {f : α → Bool} (h : H0 D = none) : Pl H0 D f [] (upd H0 D (.lst [])) := ⟨My.Same.new (Same.refl H0) h, upd_same, h⟩
theorem Pl.next {α : Type} {H0 H : Hp} {D : Addr} {f : α → Bool} {pre : List α} {x : α} {y : V} (z : Pl H0 D f pre H) (e : y = .bl (f x)) (hn : pre.length < 6000) : ∃ acc, H D = some (.lst acc) ∧ acc.length < sizeLine ∧ Pl H0 D f (pre ++ [x]) (upd H D (.lst (acc ++ [y]))) := by
  refine ⟨_, z.2.1, by rw [List.length_map, List.length_map, sizeLine_eq]; omega, My.Same.mut z.1 z.2.2, ?_, z.2.2⟩
  rw [upd_same, List.map_append, List.map_append, e]
  rfl
theorem ok_text (T : Tx K mg t1 t2) {fd : FuncData} (F : Fd K d_is_text fd) : FnOk P w K mg base CX0 1 (He.fAd K d_is_text.at_) fd ["value", "most"] sp_text := by
  refine F.ok sc_is_text (fun vs H Q E h => ?_) (fun cdv A outer s H vs Q E hr h => ?_)
  · obtain ⟨z, rfl, _⟩ := h
    rfl
  · obtain ⟨z, rfl, hz, q⟩ := h
    obtain ⟨hl, hp⟩ := Bool.and_eq_true_iff.mp hz
    have hl := of_decide_eq_true hl
    refine ⟨_, PSs.nox ((pss_one (ps_ret (pe_and (pe_callB call_isi (by rfl) T.n_isinstance (by decide +kernel) (pa_cons (pv 0) (pa_cons (pe_bltn (v := .ty "str") rfl T.n_str (by decide +kernel) rfl) pa_nil))) (pe_and (pe_cmpR op_le (pe_callB call_len_str (by rfl) T.n_len (by decide +kernel) (pa_cons (pv 0) pa_nil)) (pv 1) (nomark _)) (pe_one (pe_callB (cr_all rfl) (by rfl) T.n_all (by decide +kernel) (pa_cons (pe_lc (own := [("sign", 2)]) (g := gName 2) (tt := tYes) rfl sc_is_text.nd (pi_str (pv 0)) (blkOk_by (own := [("sign", 2)]) (N := ["value", "most", "sign"]) (sc := defScope s_is_text) (by decide +kernel)) (fun _ _ _ _ _ => pg_name (i := 2) sc_is_text.nd rfl (Or.inl rfl)) (fun _ _ _ _ _ => pts_nil) (fun _ _ _ _ _ => (pe_chain op_le_str op_le_str pe_str (pv 2) pe_str))) pa_nil)))))))), ?_⟩
    refine My.x_start (σ := [some (V.str z), some (V.int 4000), none]) rfl ?_
    try dsimp only [cxOf, Cx.nox]
    walk_at "go"
    refine My.x_isi (.ty "str") (.base (.str z)) (b := true) (kit_ty (by decide +kernel)) ?_
    walk_at "go"
    refine ⟨z, rfl, by rw [sizeLine_eq]; omega, ?_⟩
    walk_at "go"
    rw [decide_eq_true hl]
    walk_at "go"
    refine ⟨_, rfl, z, rfl, fun D hD => ?_⟩
    refine My.lc_runs (My.runs_str z) (fun pre H' => Pl H D okS pre H') (Pl.zero hD) (fun _ _ _ _ _ => True.intro) ?_ ?_
    · rintro pre c post H1 v H2 hpre zz ⟨rfl, rfl⟩
      have hlen : pre.length < 6000 := by
        have e : z.cps.toList.length = z.length := by rw [Array.length_toList]; rfl
        have := congrArg List.length hpre
        rw [e, List.length_append, List.length_cons] at this
        omega
      walk_at "go"
      refine ⟨rfl, ?_⟩
      walk_at "go"
      refine ⟨_, rfl, ?_⟩
      refine ⟨_, _, rfl, rfl, _, rfl, ?_⟩
      show if (!decide ([c] < [32])) = true then _ else _
      by_cases hc : [c] < [32]
      · have e : (!decide ([c] < [32])) = false := by rw [decide_eq_true hc]; rfl
        rw [if_neg (by rw [e]; exact Bool.false_ne_true)]
        exact zz.next (by unfold okS; rw [e]; rfl) hlen
      · have e : (!decide ([c] < [32])) = true := by rw [decide_eq_false hc]; rfl
        rw [if_pos e]
        refine ⟨_, _, rfl, rfl, ?_⟩
        exact zz.next (by unfold okS; rw [e, Bool.true_and]; rfl) hlen
    · rintro H1 ⟨S, gD, _⟩
      walk_at "go"
      refine ⟨D, z.cps.toList.map okS, rfl, SqL.of gD, ?_⟩
      have e : (z.cps.toList.map okS).all id = z.cps.toList.all okS := by rw [List.all_map]; rfl
      rw [e, hp]
      exact q H1 S
theorem ok_only (T : Tx K mg t1 t2) {fd : FuncData} (F : Fd K d_has_only fd) (C_is_between : My.Cl P w K mg base "is_between" ["value", "least", "most"] 1 sp_betw) : FnOk P w K mg base CX0 2 (He.fAd K d_has_only.at_) fd ["values", "most"] (sp_only K) := by
  refine F.ok sc_has_only (fun vs H Q E h => ?_) (fun cdv A outer s H vs Q E hr h => ?_)
  · obtain ⟨x, is, m, rfl, _⟩ := h
    rfl
  · obtain ⟨x, is, m, rfl, ⟨a, rfl, hs⟩, hn, hi, q⟩ := h
    have allT : (is.map fun i => decide (0 ≤ i ∧ i ≤ m - 1)).all id = true := by
      rw [List.all_map, List.all_eq_true]
      exact fun i hm => decide_eq_true (hi i hm)
    have hlen : ∀ {pre post : List Int} {x : Int}, is = pre ++ x :: post → pre.length < 6000 := fun {pre post x} e => by
      rw [e, List.length_append, List.length_cons] at hn
      omega
    rcases hs with hl | ht
    · refine ⟨_, PSs.nox ((pss_one (ps_ret (pe_and (pe_callB call_isiT (by rfl) T.n_isinstance (by decide +kernel) (pa_cons (pv 0) (pa_cons (pe_tup (pa_cons (pe_bltn (v := .ty "list") rfl T.n_list (by decide +kernel) rfl) (pa_cons (pe_bltn (v := .ty "tuple") rfl T.n_tuple (by decide +kernel) rfl) pa_nil))) pa_nil))) (pe_one (pe_callB (cr_all rfl) (by rfl) T.n_all (by decide +kernel) (pa_cons (pe_lc (own := [("value", 2)]) (g := gName 2) (tt := tYes) rfl sc_has_only.nd (pi_list (pv 0)) (blkOk_by (own := [("value", 2)]) (N := ["values", "most", "value"]) (sc := defScope s_has_only) (by decide +kernel)) (fun _ _ _ _ _ => pg_name (i := 2) sc_has_only.nd rfl (Or.inl rfl)) (fun _ _ _ _ _ => pts_nil) (fun _ _ _ _ _ => (My.pe_cl C_is_between (hr.mono (by decide)) rfl (pa_cons (pv 2) (pa_cons pe_int (pa_cons (pe_op op_sub (pv 1) pe_int) pa_nil)))))) pa_nil))))))), ?_⟩
      refine My.x_start (σ := [some (V.ref a), some (V.int m), none]) rfl ?_
      try dsimp only [cxOf, Cx.nox]
      walk_at "go"
      intro tp htp
      have s1 := My.Same.new (o := .tup [.ty "list", .ty "tuple"]) (Same.refl H) htp
      walk_at "go"
      refine My.x_isiT upd_same clsLT (My.tyx_same (My.sql_ty hl) s1) (b := true) (by rfl) ?_
      replace hl := s1.seq hl
      generalize upd H tp (.tup [.ty "list", .ty "tuple"]) = H1 at s1 hl ⊢
      walk_at "go"
      intro D hD
      refine My.lc_runs (My.runs_list (K := K) (a := a) V.int is) (fun pre H' => Pl H1 D (fun i => decide (0 ≤ i ∧ i ≤ m - 1)) pre H') (Pl.zero hD) (fun pre post H' _ z => z.1.seq hl) ?_ ?_
      · rintro pre i post H2 v H3 hpre zz ⟨rfl, rfl⟩
        simp only [List.map_cons, List.map_nil, wipe, List.set_cons_succ, List.set_cons_zero]
        walk_at "go"
        refine ⟨rfl, ?_⟩
        walk_at "go"
        refine ⟨i, 0, m - 1, rfl, ?_⟩
        exact zz.next rfl (hlen hpre)
      · rintro H2 ⟨S, gD, _⟩
        walk_at "go"
        refine ⟨D, is.map fun i => decide (0 ≤ i ∧ i ≤ m - 1), rfl, SqL.of gD, ?_⟩
        rw [allT]
        exact q H2 (s1.trans S)
    · refine ⟨_, PSs.nox ((pss_one (ps_ret (pe_and (pe_callB call_isiT (by rfl) T.n_isinstance (by decide +kernel) (pa_cons (pv 0) (pa_cons (pe_tup (pa_cons (pe_bltn (v := .ty "list") rfl T.n_list (by decide +kernel) rfl) (pa_cons (pe_bltn (v := .ty "tuple") rfl T.n_tuple (by decide +kernel) rfl) pa_nil))) pa_nil))) (pe_one (pe_callB (cr_all rfl) (by rfl) T.n_all (by decide +kernel) (pa_cons (pe_lc (own := [("value", 2)]) (g := gName 2) (tt := tYes) rfl sc_has_only.nd (pi_tup (pv 0)) (blkOk_by (own := [("value", 2)]) (N := ["values", "most", "value"]) (sc := defScope s_has_only) (by decide +kernel)) (fun _ _ _ _ _ => pg_name (i := 2) sc_has_only.nd rfl (Or.inl rfl)) (fun _ _ _ _ _ => pts_nil) (fun _ _ _ _ _ => (My.pe_cl C_is_between (hr.mono (by decide)) rfl (pa_cons (pv 2) (pa_cons pe_int (pa_cons (pe_op op_sub (pv 1) pe_int) pa_nil)))))) pa_nil))))))), ?_⟩
      refine My.x_start (σ := [some (V.ref a), some (V.int m), none]) rfl ?_
      try dsimp only [cxOf, Cx.nox]
      walk_at "go"
      intro tp htp
      have s1 := My.Same.new (o := .tup [.ty "list", .ty "tuple"]) (Same.refl H) htp
      walk_at "go"
      refine My.x_isiT upd_same clsLT (My.tyx_same (My.sqt_ty ht) s1) (b := true) (kitLT) ?_
      replace ht := seqT s1 ht
      generalize upd H tp (.tup [.ty "list", .ty "tuple"]) = H1 at s1 ht ⊢
      walk_at "go"
      intro D hD
      refine My.lc_runs (My.runs_tup (K := K) (a := a) V.int is) (fun pre H' => Pl H1 D (fun i => decide (0 ≤ i ∧ i ≤ m - 1)) pre H') (Pl.zero hD) (fun pre post H' _ z => seqT z.1 ht) ?_ ?_
      · rintro pre i post H2 v H3 hpre zz ⟨rfl, rfl⟩
        simp only [List.map_cons, List.map_nil, wipe, List.set_cons_succ, List.set_cons_zero]
        walk_at "go"
        refine ⟨rfl, ?_⟩
        walk_at "go"
        refine ⟨i, 0, m - 1, rfl, ?_⟩
        exact zz.next rfl (hlen hpre)
      · rintro H2 ⟨S, gD, _⟩
        walk_at "go"
        refine ⟨D, is.map fun i => decide (0 ≤ i ∧ i ≤ m - 1), rfl, SqL.of gD, ?_⟩
        rw [allT]
        exact q H2 (s1.trans S)
end
end K01

end

section
local macro_rules | `(tactic| walk_at "ne") => `(tactic| first | assumption | (apply Ne.symm; assumption) | exact L2.ne_of_none (by assumption) (by assumption) | exact (L2.ne_of_none (by assumption) (by assumption)).symm)
local macro_rules | `(tactic| walk_at "hp") => `(tactic| first | assumption | exact L2.upd_same | (rw [L2.upd_ne (by walk_at "ne")]; walk_at "hp"))
local macro_rules | `(tactic| walk_at "sq") => `(tactic| first | assumption | exact L2.SqL.of (by walk_at "hp") | exact My.sq_new (by walk_at "sq") (by assumption))
local macro_rules | `(tactic| walk_at "sd") => `(tactic| first | decide | omega | (unfold L2.CDivN; omega) | (unfold L2.CMul; omega) | (unfold L2.CPow; omega))
local macro_rules | `(tactic| walk_at "sx1") => `(tactic| first | with_reducible refine My.x_seq ?_ | with_reducible refine My.x_asg ?_ | with_reducible refine My.x_ret ?_ | with_reducible refine My.x_next ?_ | with_reducible refine My.x_op ?_ | with_reducible refine My.x_c ?_ | with_reducible refine My.x_ifs ?_ | with_reducible refine My.x_test ?_ | with_reducible refine My.x_exbl ?_ | with_reducible refine My.x_cons ?_ | with_reducible refine My.x_nil ?_ | with_reducible refine My.x_cb ?_ | with_reducible refine My.x_drop ?_ | with_reducible refine My.x_par ?_ | with_reducible refine My.x_exp2 ?_ | with_reducible refine My.x_aug ?_ | with_reducible refine My.x_if ?_ | with_reducible refine My.x_tB ?_ | with_reducible refine My.x_and ?_ | with_reducible refine My.x_or ?_ | with_reducible refine My.x_not ?_ | with_reducible refine My.x_retn ?_ | with_reducible refine My.x_cont ?_ | with_reducible refine My.x_brk ?_ | with_reducible refine My.x_un ?_ | with_reducible refine My.x_tfor ?_ | with_reducible refine My.x_ilist ?_ | with_reducible refine My.x_rng1 ?_ | with_reducible refine My.x_rng2 ?_ | with_reducible refine My.x_r1 ?_ | with_reducible refine My.x_call ?_ | with_reducible refine My.x_sl ?_ | with_reducible refine My.x_part ?_ | with_reducible refine My.x_nopart ?_ | with_reducible refine My.x_ii0 ?_ | with_reducible refine My.x_yes ?_ | with_reducible refine My.x_andv ?_ | with_reducible refine My.x_orv ?_ | with_reducible refine My.x_notv ?_ | with_reducible refine My.x_iT ?_ | with_reducible refine My.x_iF ?_ | with_reducible refine My.x_chain ?_ | with_reducible refine My.x_exI ?_ | with_reducible refine My.x_wipe ?_ | with_reducible refine My.x_bm ?_ | with_reducible refine My.x_bm0 ?_ | with_reducible refine My.x_gsub ?_ | with_reducible refine My.x_int1 ?_ | with_reducible refine My.x_two ?_ | with_reducible refine My.x_lst ?_ | with_reducible refine My.x_tup ?_ | with_reducible refine My.x_revL ?_ | with_reducible refine My.x_dput ?_ | with_reducible refine My.x_dget ?_ | with_reducible refine My.x_dnew ?_ | with_reducible refine My.x_dc ?_ | with_reducible refine My.x_lc ?_ | with_reducible refine My.x_ienum ?_ | with_reducible refine My.x_gcons ?_ | with_reducible refine My.x_gnil ?_ | with_reducible refine My.x_v0 ?_ | with_reducible refine My.x_v1 ?_ | with_reducible refine My.x_v2 ?_ | with_reducible refine My.x_v3 ?_ | with_reducible refine My.x_v4 ?_ | with_reducible refine My.x_v5 ?_ | with_reducible refine My.x_v6 ?_ | with_reducible refine My.x_v7 ?_ | with_reducible refine My.x_v8 ?_ | with_reducible refine My.x_v9 ?_ | with_reducible refine My.x_v10 ?_ | with_reducible refine My.x_v11 ?_ | with_reducible refine My.x_v12 ?_ | with_reducible refine My.x_v13 ?_ | with_reducible refine My.x_v14 ?_ | with_reducible refine My.x_v15 ?_ | with_reducible refine My.x_v16 ?_ | with_reducible refine My.x_v17 ?_ | with_reducible refine My.x_v18 ?_ | with_reducible refine My.x_v19 ?_ | with_reducible refine My.x_v20 ?_ | with_reducible refine My.x_v21 ?_ | with_reducible refine My.x_v22 ?_ | with_reducible refine My.x_v23 ?_ | with_reducible refine My.x_v24 ?_ | with_reducible refine My.x_v25 ?_ | with_reducible refine My.x_g0 ?_ | with_reducible refine My.x_g1 ?_ | with_reducible refine My.x_g2 ?_ | with_reducible refine My.x_g3 ?_ | with_reducible refine My.x_g4 ?_ | with_reducible refine My.x_g5 ?_ | with_reducible refine My.x_g6 ?_ | with_reducible refine My.x_g7 ?_ | with_reducible refine My.x_g8 ?_ | with_reducible refine My.x_g9 ?_ | with_reducible refine My.x_g10 ?_ | with_reducible refine My.x_g11 ?_ | with_reducible refine My.x_g12 ?_ | with_reducible refine My.x_g13 ?_ | with_reducible refine My.x_g14 ?_ | with_reducible refine My.x_g15 ?_ | with_reducible refine My.x_g16 ?_ | with_reducible refine My.x_g17 ?_ | with_reducible refine My.x_g18 ?_ | with_reducible refine My.x_g19 ?_ | with_reducible refine My.x_g20 ?_ | with_reducible refine My.x_g21 ?_ | with_reducible refine My.x_g22 ?_ | with_reducible refine My.x_g23 ?_ | with_reducible refine My.x_g24 ?_ | with_reducible refine My.x_g25 ?_)
local macro_rules | `(tactic| walk_at "sx") => `(tactic| repeat (walk_at "sx1"))
local macro_rules | `(tactic| walk_at "ln") => `(tactic| first | assumption | exact Nat.le_of_ble_eq_true rfl | (simp only [List.length_append, List.length_map, List.length_cons, List.length_nil]; simp only [PySem.sizeLine]; omega))
local macro_rules | `(tactic| walk_at "st") => `(tactic| first | assumption | exact L2.SqT.of (by walk_at "hp"))
local macro_rules | `(tactic| walk_at "go1") => `(tactic| first | walk_at "sx1" | ((with_reducible refine' My.x_ixL ?x0 ?x1 ?x2); (case x0 => walk_at "sq"); (case x1 => exact rfl)) | ((with_reducible refine' My.x_ixT ?x0 ?x1 ?x2); (case x0 => walk_at "st"); (case x1 => exact rfl)) | ((with_reducible refine' My.x_i ?x0 ?x1); (case x0 => walk_at "sd")) | ((with_reducible refine' My.x_setL ?x0 ?x1 ?x2); (case x0 => walk_at "hp"); (case x1 => exact rfl)) | ((with_reducible refine' My.x_len ?x0 ?x1); (case x0 => walk_at "sq")) | ((with_reducible refine' My.x_lenT ?x0 ?x1); (case x0 => walk_at "st")) | ((with_reducible refine' My.x_lenD ?x0 ?x1); (case x0 => walk_at "hp")) | ((with_reducible refine' My.x_append ?x0 ?x1 ?x2); (case x0 => walk_at "hp"); (case x1 => walk_at "ln")) | ((with_reducible refine' My.x_tyL ?x0 ?x1); (case x0 => walk_at "hp")) | ((with_reducible refine' My.x_ilistE ?x0 ?x1); (case x0 => walk_at "sq")) | ((with_reducible refine' My.x_ienumE ?x0 ?x1); (case x0 => walk_at "sq")) | ((with_reducible refine' My.x_sortI ?x0 ?x1); (case x0 => walk_at "sq")) | ((with_reducible refine' My.x_slL ?x0 ?x1); (case x0 => walk_at "sq")) | ((with_reducible refine' My.x_revL2 ?x0 ?x1); (case x0 => walk_at "sq")) | ((with_reducible refine' My.x_eq ?x0 ?x1); (case x0 => exact rfl)) | ((with_reducible refine' My.x_ne ?x0 ?x1); (case x0 => exact rfl)) | ((with_reducible refine' My.x_dputI ?x0 ?x1 ?x2); (case x0 => walk_at "hp"); (case x1 => walk_at "ln")) | ((with_reducible refine' My.x_dputS ?x0 ?x1 ?x2); (case x0 => walk_at "hp"); (case x1 => walk_at "ln")) | ((with_reducible refine' My.x_seqof ?x0 ?x1); (case x0 => walk_at "sq")) | ((with_reducible refine' My.x_gtup ?x0 ?x1 ?x2); (case x0 => walk_at "st"); (case x1 => exact rfl)) | ((with_reducible refine' My.x_mem1 ?x0 ?x1); (case x0 => walk_at "ln")))
local macro_rules | `(tactic| walk_at "go") => `(tactic| repeat (walk_at "go1"))
local macro_rules | `(tactic| walk_at "sx1") => `(tactic| first | with_reducible refine My.x_gx ?_ | with_reducible refine My.x_gxK ?_ | with_reducible refine My.x_gi ?_ | with_reducible refine My.x_gst ?_ | with_reducible refine My.x_xg ?_ | with_reducible refine My.x_nF ?_ | with_reducible refine My.x_nT ?_ | with_reducible refine My.x_fld ?_ | with_reducible refine My.x_sfld ?_ | with_reducible refine My.x_meth ?_ | with_reducible refine My.x_make ?_ | with_reducible refine My.x_din ?_ | with_reducible refine My.x_dnin ?_ | with_reducible refine My.x_ikeys ?_ | with_reducible refine My.x_itup ?_ | with_reducible refine My.x_mkO ?_ | with_reducible refine My.x_vei ?_ | with_reducible refine My.x_ost ?_ | with_reducible refine My.x_nF ?_ | with_reducible refine My.x_nT ?_)
local macro_rules | `(tactic| walk_at "go1") => `(tactic| first | ((with_reducible refine' My.x_fldE ?x0 ?x1 ?x2 ?x3 ?x4); (case x0 => walk_at "hp"); (case x1 => assumption); (case x2 => assumption); (case x3 => exact rfl)) | ((with_reducible refine' My.x_sfldE ?x0 ?x1 ?x2 ?x3 ?x4 ?x5); (case x0 => walk_at "hp"); (case x1 => assumption); (case x2 => assumption); (case x3 => decide); (case x4 => exact rfl)) | ((with_reducible refine' My.x_methE ?x0 ?x1 ?x2); (case x0 => walk_at "hp"); (case x1 => exact rfl)) | ((with_reducible refine' My.x_itupE ?x0 ?x1); (case x0 => walk_at "st")))
namespace K01
open PySem PySem.Spec PyProof.Rows L2
/-- the fields of a disk with power -/
abbrev flds (b s q : Addr) : List (Str × V) := [(("own_blocks" : Str), .ref b), (("own_shown" : Str), .ref s), (("own_queue" : Str), .ref q), (("own_left" : Str), .non)]
/-- a disk at a: its lists stand at b, s, q -/
structure DkB (K : PySem.W.Frag) (H : Hp) (a dx b s q : Addr) (bs ss : List V) (ts : List Addr) : Prop where
  ha : H a = some (.ins (CD K) dx (flds b s q))
  hb : H b = some (.lst bs)
  hs : H s = some (.lst ss)
  hq : H q = some (.lst (ts.map V.ref))
  nbs : b ≠ s
  nbq : b ≠ q
  nsq : s ≠ q
theorem DkB.same {K : PySem.W.Frag} {H H' : Hp} {a dx b s q : Addr} {bs ss : List V} {ts : List Addr} (h : DkB K H a dx b s q bs ss ts) (S : Same H H') : DkB K H' a dx b s q bs ss ts := ⟨S _ _ h.ha, S _ _ h.hb, S _ _ h.hs, S _ _ h.hq, h.nbs, h.nbq, h.nsq⟩
def sp_init (K : PySem.W.Frag) : Sp := fun vs H Q E => ∃ (self dx : Addr) (n : Int), vs = [.ref self, .int n] ∧ H self = some (.ins (CD K) dx []) ∧ 1 ≤ n ∧ n ≤ 1000 ∧
  ∀ (b s q : Addr) (H' : Hp), (∀ c o, c ≠ self → H c = some o → H' c = some o) → H b = none → H s = none → H q = none → DkB K H' self dx b s q (List.replicate n.toNat .non) (List.replicate n.toNat .non) [] → Q .non H'
def sp_req (K : PySem.W.Frag) : Sp := fun vs H Q E => ∃ (a dx b s q : Addr) (bs ss : List V) (ts : List Addr) (n : Nat), vs = [.ref a, .int n] ∧ DkB K H a dx b s q bs ss ts ∧ n < bs.length ∧ Q .non H
def sp_len (K : PySem.W.Frag) : Sp := fun vs H Q _ => ∃ (a dx b s q : Addr) (bs ss : List V) (ts : List Addr), vs = [.ref a] ∧ DkB K H a dx b s q bs ss ts ∧ Q (.int (bs.length : Nat)) H
def sp_get (K : PySem.W.Frag) : Sp := fun vs H Q E => ∃ (a dx b s q : Addr) (bs ss : List V) (ts : List Addr) (n : Nat) (v : V), vs = [.ref a, .int n] ∧ DkB K H a dx b s q bs ss ts ∧ ss.length = bs.length ∧ ss[n]? = some v ∧ Q v H
def sp_pow (K : PySem.W.Frag) : Sp := fun vs H Q E => ∃ (a dx b s q : Addr) (bs ss : List V) (ts : List Addr), vs = [.ref a] ∧ DkB K H a dx b s q bs ss ts ∧ Q .non H
section
variable {P : Program} {w : World} {K : PySem.W.Frag} {mg : Str → Option Value} {base : Heap} {t1 t2 : Tok}
theorem betw_in {H : Hp} {Q : VK} {E : XK} {i l m : Int} (h : l ≤ i ∧ i ≤ m) (q : Q (.bl true) H) : sp_betw ([.int i, .int l, .int m] ++ []) H Q E := ⟨_, _, _, rfl, by rw [decide_eq_true h]; exact q⟩
theorem ok_req (T : Tx K mg t1 t2) {fd : FuncData} (F : Fd K d_Disk_require fd) (C_is_between : My.Cl P w K mg base "is_between" ["value", "least", "most"] 1 sp_betw) :
    FnOk P w K mg base CX0 3 (He.fAd K d_Disk_require.at_) fd ["self", "block"] (sp_req K) := by
  refine F.ok sc_Disk_require (fun vs H Q E h => ?_) (fun cdv A outer s H vs Q E hr h => ?_)
  · obtain ⟨a, dx, b, s, q, bs, ss, ts, x, rfl, _⟩ := h
    rfl
  · obtain ⟨a, dx, b, s', q, bs, ss, ts, n, rfl, hD, hn, h⟩ := h
    obtain ⟨fa, fb, fs, fq, _, _, _⟩ := hD
    have fc := T.cls
    have fn := T.nb
    refine ⟨_, PSs.nox ((pss_one (ps_if (pt_not (pt_val (My.pe_cl C_is_between (hr.mono (by decide)) rfl (pa_cons (pv 1) (pa_cons pe_int (pa_cons (pe_op op_sub (pe_callB call_len_seq (by rfl) T.n_len (by decide +kernel) (pa_cons (My.pe_fldK (K := K) (by rfl) (pv 0) (by rfl)) pa_nil)) pe_int) pa_nil))))))
  (pss_one ps_never)
  pss_nil))), ?_⟩
    refine My.x_start (σ := [some (V.ref a), some (V.int n)]) rfl ?_
    try dsimp only [cxOf, Cx.nox]
    walk_at "go"
    refine betw_in ⟨by omega, by omega⟩ ?_
    walk_at "go"
    exact h
theorem ok_len (T : Tx K mg t1 t2) {fd : FuncData} (F : Fd K d_Disk_len fd) : FnOk P w K mg base CX0 1 (He.fAd K d_Disk_len.at_) fd ["self"] (sp_len K) := by
  refine F.ok sc_Disk_len (fun vs H Q E h => ?_) (fun cdv A outer s H vs Q E hr h => ?_)
  · obtain ⟨a, dx, b, s, q, bs, ss, ts, rfl, _⟩ := h
    rfl
  · obtain ⟨a, dx, b, s', q, bs, ss, ts, rfl, hD, h⟩ := h
    obtain ⟨fa, fb, fs, fq, _, _, _⟩ := hD
    have fc := T.cls
    have fn := T.nb
    refine ⟨_, PSs.nox ((pss_one (ps_ret (pe_callB call_len_seq (by rfl) T.n_len (by decide +kernel) (pa_cons (My.pe_fldK (K := K) (by rfl) (pv 0) (by rfl)) pa_nil))))), ?_⟩
    refine My.x_start (σ := [some (V.ref a)]) rfl ?_
    try dsimp only [cxOf, Cx.nox]
    walk_at "go"
    exact h
theorem ok_size (T : Tx K mg t1 t2) {fd : FuncData} {g : Addr} (F : FunD K d_Disk_size.name d_Disk_size.qual d_Disk_size.params d_Disk_size.body d_Disk_size.scope (d_Disk_size.dvs K) (d_Disk_size.kws K) g fd) : FnOk P w K mg base CX0 1 g fd ["self"] (sp_len K) := by
  refine F.ok sc_Disk_size (fun vs H Q E h => ?_) (fun cdv A outer s H vs Q E hr h => ?_)
  · obtain ⟨a, dx, b, s, q, bs, ss, ts, rfl, _⟩ := h
    rfl
  · obtain ⟨a, dx, b, s', q, bs, ss, ts, rfl, hD, h⟩ := h
    obtain ⟨fa, fb, fs, fq, _, _, _⟩ := hD
    have fc := T.cls
    have fn := T.nb
    refine ⟨_, PSs.nox ((pss_one (ps_ret (pe_callB call_len_seq (by rfl) T.n_len (by decide +kernel) (pa_cons (My.pe_fldK (K := K) (by rfl) (pv 0) (by rfl)) pa_nil))))), ?_⟩
    refine My.x_start (σ := [some (V.ref a)]) rfl ?_
    try dsimp only [cxOf, Cx.nox]
    walk_at "go"
    exact h
theorem ok_pow (T : Tx K mg t1 t2) {fd : FuncData} (F : Fd K d_Disk_use_power fd) : FnOk P w K mg base CX0 3 (He.fAd K d_Disk_use_power.at_) fd ["self"] (sp_pow K) := by
  refine F.ok sc_Disk_use_power (fun vs H Q E h => ?_) (fun cdv A outer s H vs Q E hr h => ?_)
  · obtain ⟨a, dx, b, s, q, bs, ss, ts, rfl, _⟩ := h
    rfl
  · obtain ⟨a, dx, b, s', q, bs, ss, ts, rfl, hD, h⟩ := h
    obtain ⟨fa, fb, fs, fq, _, _, _⟩ := hD
    have fc := T.cls
    have fn := T.nl
    refine ⟨_, PSs.nox ((pss_one (ps_if (pt_cmpR op_notN (My.pe_fldK (K := K) (by rfl) (pv 0) (by rfl)) pe_non (nomark _))
  (pss_cons (ps_if (pt_cmpR op_eq (My.pe_fldK (K := K) (by rfl) (pv 0) (by rfl)) pe_int (nomark _))
  (pss_one ps_never)
  pss_nil)
  (pss_one ps_never))
  pss_nil))), ?_⟩
    refine My.x_start (σ := [some (V.ref a)]) rfl ?_
    try dsimp only [cxOf, Cx.nox]
    walk_at "go"
    refine ⟨rfl, _, rfl, ?_⟩
    simp only [decide_true, Bool.not_true, Bool.false_eq_true, if_false]
    walk_at "go"
    exact h
theorem ok_get (T : Tx K mg t1 t2) {fd : FuncData} (F : Fd K d_Disk_getitem fd) (C_require : My.Cm P w K mg base CX0 "Disk" "require" ["self", "block"] 3 (sp_req K)) :
    FnOk P w K mg base CX0 4 (He.fAd K d_Disk_getitem.at_) fd ["self", "block"] (sp_get K) := by
  refine F.ok sc_Disk_getitem (fun vs H Q E h => ?_) (fun cdv A outer s H vs Q E hr h => ?_)
  · obtain ⟨a, dx, b, s, q, bs, ss, ts, n, v, rfl, _⟩ := h
    rfl
  · obtain ⟨a, dx, b, s', q, bs, ss, ts, n, v, rfl, hD, hl, hv, h⟩ := h
    obtain ⟨fa, fb, fs, fq, n1, n2, n3⟩ := id hD
    have fc := T.cls
    have fn := T.ns
    refine ⟨_, PSs.nox ((pss_cons (ps_expr (My.pe_cm C_require (hr.mono (by decide)) pass0 (pv 0) (pa_cons (pv 1) pa_nil)))
  (pss_one (ps_ret (pe_ix ix_list (My.pe_fldK (K := K) (by rfl) (pv 0) (by rfl)) (pv 1) (fun _ _ => rfl)))))), ?_⟩
    refine My.x_start (σ := [some (V.ref a), some (V.int n)]) rfl ?_
    try dsimp only [cxOf, Cx.nox]
    walk_at "go"
    have hn : n < ss.length := (List.getElem?_eq_some_iff.mp hv).1
    refine ⟨a, dx, b, s', q, bs, ss, ts, n, rfl, hD, by omega, ?_⟩
    walk_at "go"
    refine My.x_ixL (SqL.of fs) (atI_nat hv) ?_
    exact h
theorem flat_rep (n : Nat) (v : V) : (List.replicate n [v]).flatten = List.replicate n v := by
  induction n with
  | zero => rfl
  | succ n ih => rw [List.replicate_succ, List.flatten_cons, ih]; rfl
/-- all but a is kept -/
def Kp (a : Addr) (H H' : Hp) : Prop := ∀ c o, c ≠ a → H c = some o → H' c = some o
theorem Kp.new {a p : Addr} {H H' : Hp} {o : HO} (k : Kp a H H') (h : H' p = none) : Kp a H (upd H' p o) := fun c u hc e => by
  have z := k c u hc e
  rw [upd_ne (ne_of_none z h)]
  exact z
theorem Kp.mut {a : Addr} {H H' : Hp} {o : HO} (k : Kp a H H') : Kp a H (upd H' a o) := fun c u hc e => by
  rw [upd_ne hc]
  exact k c u hc e
theorem Kp.free {a p : Addr} {H H' : Hp} {o : HO} (k : Kp a H H') (fa : H' a = some o) (h : H' p = none) : H p = none := by
  cases e : H p with
  | none => rfl
  | some u =>
    have hp : p ≠ a := fun z => by rw [z, fa] at h; cases h
    have := k p u hp e
    rw [h] at this
    cases this
theorem ok_init (T : Tx K mg t1 t2) {fd : FuncData} (F : Fd K d_Disk_init fd) (C_is_between : My.Cl P w K mg base "is_between" ["value", "least", "most"] 1 sp_betw) :
    FnOk P w K mg base CX0 3 (He.fAd K d_Disk_init.at_) fd ["self", "size"] (sp_init K) := by
  refine F.ok sc_Disk_init (fun vs H Q E h => ?_) (fun cdv A outer s H vs Q E hr h => ?_)
  · obtain ⟨a, dx, x, rfl, _⟩ := h
    rfl
  · obtain ⟨a, dx, n, rfl, fa, n0, n1, q⟩ := h
    have fc := T.cls
    have fb := T.nb
    have fs := T.ns
    have fq := T.nq
    have fl := T.nl
    refine ⟨_, PSs.nox ((pss_cons (ps_if (pt_not (pt_val (My.pe_cl C_is_between (hr.mono (by decide)) rfl (pa_cons (pv 1) (pa_cons pe_int (pa_cons (pe_glob (v := .int 1000) rfl T.g_MAX_BLOCKS ⟨_, rfl⟩) pa_nil))))))
  (pss_one ps_never)
  pss_nil)
  (pss_cons (ps_fld (pv 0) (pe_op op_rep (pe_lst (pa_cons pe_non pa_nil)) (pv 1)) rfl)
  (pss_cons (ps_fld (pv 0) (pe_op op_rep (pe_lst (pa_cons pe_non pa_nil)) (pv 1)) rfl)
  (pss_cons (ps_fld (pv 0) (pe_lst pa_nil) rfl)
  (pss_one (ps_fld (pv 0) pe_non rfl))))))), ?_⟩
    refine My.x_start (σ := [some (V.ref a), some (V.int n)]) rfl ?_
    try dsimp only [cxOf, Cx.nox]
    walk_at "go"
    refine betw_in ⟨n0, n1⟩ ?_
    walk_at "go"
    intro p hp
    have k1 : Kp a H (upd H p (.lst [V.non])) := Kp.new (fun c o _ e => e) hp
    have gp : upd H p (.lst [V.non]) p = some (.lst [V.non]) := upd_same
    replace fa : upd H p (.lst [V.non]) a = some (.ins (CD K) dx []) := by rw [upd_ne (ne_of_none fa hp)]; exact fa
    generalize upd H p (.lst [V.non]) = H1 at k1 gp fa ⊢
    clear hp
    walk_at "go"
    refine ⟨p, n, _, rfl, rfl, gp, by omega, by omega, by rw [sizeLine_eq, List.length_singleton]; omega, fun b hb => ?_⟩
    rw [flat_rep]
    have nb := k1.free fa hb
    have k2 : Kp a H (upd H1 b (.lst (List.replicate n.toNat .non))) := k1.new hb
    have gb : upd H1 b (.lst (List.replicate n.toNat .non)) b = some (.lst (List.replicate n.toNat .non)) := upd_same
    have ab : a ≠ b := ne_of_none fa hb
    replace fa : upd H1 b (.lst (List.replicate n.toNat .non)) a = some (.ins (CD K) dx []) := by rw [upd_ne ab]; exact fa
    generalize upd H1 b (.lst (List.replicate n.toNat .non)) = H2 at k2 gb fa ⊢
    clear k1 gp hb
    walk_at "go"
    have k3 : Kp a H (upd H2 a (.ins (CD K) dx (putF (Str.ofString "own_blocks") (V.ref b) []))) := k2.mut
    replace fa : upd H2 a (.ins (CD K) dx (putF (Str.ofString "own_blocks") (V.ref b) [])) a = some (.ins (CD K) dx [(("own_blocks" : Str), .ref b)]) := upd_same
    replace gb : upd H2 a (.ins (CD K) dx (putF (Str.ofString "own_blocks") (V.ref b) [])) b = some (.lst (List.replicate n.toNat .non)) := by rw [upd_ne ab.symm]; exact gb
    generalize upd H2 a (.ins (CD K) dx (putF (Str.ofString "own_blocks") (V.ref b) [])) = H3 at k3 gb fa ⊢
    clear k2
    intro p2 hp2
    have k4 : Kp a H (upd H3 p2 (.lst [V.non])) := k3.new hp2
    have gp : upd H3 p2 (.lst [V.non]) p2 = some (.lst [V.non]) := upd_same
    replace fa : upd H3 p2 (.lst [V.non]) a = some (.ins (CD K) dx [(("own_blocks" : Str), .ref b)]) := by rw [upd_ne (ne_of_none fa hp2)]; exact fa
    replace gb : upd H3 p2 (.lst [V.non]) b = some (.lst (List.replicate n.toNat .non)) := by rw [upd_ne (ne_of_none gb hp2)]; exact gb
    generalize upd H3 p2 (.lst [V.non]) = H4 at k4 gp fa gb ⊢
    clear hp2 k3
    walk_at "go"
    refine ⟨p2, n, _, rfl, rfl, gp, by omega, by omega, by rw [sizeLine_eq, List.length_singleton]; omega, fun s2 hs2 => ?_⟩
    rw [flat_rep]
    have ns := k4.free fa hs2
    have bs2 : b ≠ s2 := ne_of_none gb hs2
    have as2 : a ≠ s2 := ne_of_none fa hs2
    have k5 : Kp a H (upd H4 s2 (.lst (List.replicate n.toNat .non))) := k4.new hs2
    have gs : upd H4 s2 (.lst (List.replicate n.toNat .non)) s2 = some (.lst (List.replicate n.toNat .non)) := upd_same
    replace fa : upd H4 s2 (.lst (List.replicate n.toNat .non)) a = some (.ins (CD K) dx [(("own_blocks" : Str), .ref b)]) := by rw [upd_ne as2]; exact fa
    replace gb : upd H4 s2 (.lst (List.replicate n.toNat .non)) b = some (.lst (List.replicate n.toNat .non)) := by rw [upd_ne bs2]; exact gb
    generalize upd H4 s2 (.lst (List.replicate n.toNat .non)) = H5 at k5 gb gs fa ⊢
    clear k4 gp hs2
    walk_at "go"
    refine My.x_sfldE fa fc fs (by show 1 < 1000; decide) rfl ?_
    walk_at "go"
    have k6 : Kp a H (upd H5 a (.ins (CD K) dx (putF (Str.ofString "own_shown") (V.ref s2) [(("own_blocks" : Str), .ref b)]))) := k5.mut
    replace fa : upd H5 a (.ins (CD K) dx (putF (Str.ofString "own_shown") (V.ref s2) [(("own_blocks" : Str), .ref b)])) a = some (.ins (CD K) dx [(("own_blocks" : Str), .ref b), (("own_shown" : Str), .ref s2)]) := upd_same
    replace gb : upd H5 a (.ins (CD K) dx (putF (Str.ofString "own_shown") (V.ref s2) [(("own_blocks" : Str), .ref b)])) b = some (.lst (List.replicate n.toNat .non)) := by rw [upd_ne ab.symm]; exact gb
    replace gs : upd H5 a (.ins (CD K) dx (putF (Str.ofString "own_shown") (V.ref s2) [(("own_blocks" : Str), .ref b)])) s2 = some (.lst (List.replicate n.toNat .non)) := by rw [upd_ne as2.symm]; exact gs
    generalize upd H5 a (.ins (CD K) dx (putF (Str.ofString "own_shown") (V.ref s2) [(("own_blocks" : Str), .ref b)])) = H6 at k6 gb gs fa ⊢
    clear k5
    intro q2 hq2
    have nq := k6.free fa hq2
    have bq2 : b ≠ q2 := ne_of_none gb hq2
    have sq2 : s2 ≠ q2 := ne_of_none gs hq2
    have aq2 : a ≠ q2 := ne_of_none fa hq2
    have k7 : Kp a H (upd H6 q2 (.lst [])) := k6.new hq2
    have gq : upd H6 q2 (.lst []) q2 = some (.lst []) := upd_same
    replace fa : upd H6 q2 (.lst []) a = some (.ins (CD K) dx [(("own_blocks" : Str), .ref b), (("own_shown" : Str), .ref s2)]) := by rw [upd_ne aq2]; exact fa
    replace gb : upd H6 q2 (.lst []) b = some (.lst (List.replicate n.toNat .non)) := by rw [upd_ne bq2]; exact gb
    replace gs : upd H6 q2 (.lst []) s2 = some (.lst (List.replicate n.toNat .non)) := by rw [upd_ne sq2]; exact gs
    generalize upd H6 q2 (.lst []) = H7 at k7 gq gb gs fa ⊢
    clear k6 hq2
    walk_at "go"
    refine My.x_sfldE fa fc fq (by show 2 < 1000; decide) rfl ?_
    walk_at "go"
    refine My.x_sfldE upd_same fc fl (by show 3 < 1000; decide) rfl ?_
    refine q b s2 q2 _ (fun c o hc e => ?_) nb ns nq ⟨upd_same, ?_, ?_, ?_, bs2, bq2, sq2⟩
    · rw [upd_ne hc, upd_ne hc]
      exact k7 c o hc e
    · rw [upd_ne ab.symm, upd_ne ab.symm]
      exact gb
    · rw [upd_ne as2.symm, upd_ne as2.symm]
      exact gs
    · rw [upd_ne aq2.symm, upd_ne aq2.symm]
      exact gq
end
end K01

end

section
local macro_rules | `(tactic| walk_at "ne") => `(tactic| first | assumption | (apply Ne.symm; assumption) | exact L2.ne_of_none (by assumption) (by assumption) | exact (L2.ne_of_none (by assumption) (by assumption)).symm)
local macro_rules | `(tactic| walk_at "hp") => `(tactic| first | assumption | exact L2.upd_same | (rw [L2.upd_ne (by walk_at "ne")]; walk_at "hp"))
local macro_rules | `(tactic| walk_at "sq") => `(tactic| first | assumption | exact L2.SqL.of (by walk_at "hp") | exact My.sq_new (by walk_at "sq") (by assumption))
local macro_rules | `(tactic| walk_at "sd") => `(tactic| first | decide | omega | (unfold L2.CDivN; omega) | (unfold L2.CMul; omega) | (unfold L2.CPow; omega))
local macro_rules | `(tactic| walk_at "sx1") => `(tactic| first | with_reducible refine My.x_seq ?_ | with_reducible refine My.x_asg ?_ | with_reducible refine My.x_ret ?_ | with_reducible refine My.x_next ?_ | with_reducible refine My.x_op ?_ | with_reducible refine My.x_c ?_ | with_reducible refine My.x_ifs ?_ | with_reducible refine My.x_test ?_ | with_reducible refine My.x_exbl ?_ | with_reducible refine My.x_cons ?_ | with_reducible refine My.x_nil ?_ | with_reducible refine My.x_cb ?_ | with_reducible refine My.x_drop ?_ | with_reducible refine My.x_par ?_ | with_reducible refine My.x_exp2 ?_ | with_reducible refine My.x_aug ?_ | with_reducible refine My.x_if ?_ | with_reducible refine My.x_tB ?_ | with_reducible refine My.x_and ?_ | with_reducible refine My.x_or ?_ | with_reducible refine My.x_not ?_ | with_reducible refine My.x_retn ?_ | with_reducible refine My.x_cont ?_ | with_reducible refine My.x_brk ?_ | with_reducible refine My.x_un ?_ | with_reducible refine My.x_tfor ?_ | with_reducible refine My.x_ilist ?_ | with_reducible refine My.x_rng1 ?_ | with_reducible refine My.x_rng2 ?_ | with_reducible refine My.x_r1 ?_ | with_reducible refine My.x_call ?_ | with_reducible refine My.x_sl ?_ | with_reducible refine My.x_part ?_ | with_reducible refine My.x_nopart ?_ | with_reducible refine My.x_ii0 ?_ | with_reducible refine My.x_yes ?_ | with_reducible refine My.x_andv ?_ | with_reducible refine My.x_orv ?_ | with_reducible refine My.x_notv ?_ | with_reducible refine My.x_iT ?_ | with_reducible refine My.x_iF ?_ | with_reducible refine My.x_chain ?_ | with_reducible refine My.x_exI ?_ | with_reducible refine My.x_wipe ?_ | with_reducible refine My.x_bm ?_ | with_reducible refine My.x_bm0 ?_ | with_reducible refine My.x_gsub ?_ | with_reducible refine My.x_int1 ?_ | with_reducible refine My.x_two ?_ | with_reducible refine My.x_lst ?_ | with_reducible refine My.x_tup ?_ | with_reducible refine My.x_revL ?_ | with_reducible refine My.x_dput ?_ | with_reducible refine My.x_dget ?_ | with_reducible refine My.x_dnew ?_ | with_reducible refine My.x_dc ?_ | with_reducible refine My.x_lc ?_ | with_reducible refine My.x_ienum ?_ | with_reducible refine My.x_gcons ?_ | with_reducible refine My.x_gnil ?_ | with_reducible refine My.x_v0 ?_ | with_reducible refine My.x_v1 ?_ | with_reducible refine My.x_v2 ?_ | with_reducible refine My.x_v3 ?_ | with_reducible refine My.x_v4 ?_ | with_reducible refine My.x_v5 ?_ | with_reducible refine My.x_v6 ?_ | with_reducible refine My.x_v7 ?_ | with_reducible refine My.x_v8 ?_ | with_reducible refine My.x_v9 ?_ | with_reducible refine My.x_v10 ?_ | with_reducible refine My.x_v11 ?_ | with_reducible refine My.x_v12 ?_ | with_reducible refine My.x_v13 ?_ | with_reducible refine My.x_v14 ?_ | with_reducible refine My.x_v15 ?_ | with_reducible refine My.x_v16 ?_ | with_reducible refine My.x_v17 ?_ | with_reducible refine My.x_v18 ?_ | with_reducible refine My.x_v19 ?_ | with_reducible refine My.x_v20 ?_ | with_reducible refine My.x_v21 ?_ | with_reducible refine My.x_v22 ?_ | with_reducible refine My.x_v23 ?_ | with_reducible refine My.x_v24 ?_ | with_reducible refine My.x_v25 ?_ | with_reducible refine My.x_g0 ?_ | with_reducible refine My.x_g1 ?_ | with_reducible refine My.x_g2 ?_ | with_reducible refine My.x_g3 ?_ | with_reducible refine My.x_g4 ?_ | with_reducible refine My.x_g5 ?_ | with_reducible refine My.x_g6 ?_ | with_reducible refine My.x_g7 ?_ | with_reducible refine My.x_g8 ?_ | with_reducible refine My.x_g9 ?_ | with_reducible refine My.x_g10 ?_ | with_reducible refine My.x_g11 ?_ | with_reducible refine My.x_g12 ?_ | with_reducible refine My.x_g13 ?_ | with_reducible refine My.x_g14 ?_ | with_reducible refine My.x_g15 ?_ | with_reducible refine My.x_g16 ?_ | with_reducible refine My.x_g17 ?_ | with_reducible refine My.x_g18 ?_ | with_reducible refine My.x_g19 ?_ | with_reducible refine My.x_g20 ?_ | with_reducible refine My.x_g21 ?_ | with_reducible refine My.x_g22 ?_ | with_reducible refine My.x_g23 ?_ | with_reducible refine My.x_g24 ?_ | with_reducible refine My.x_g25 ?_)
local macro_rules | `(tactic| walk_at "sx") => `(tactic| repeat (walk_at "sx1"))
local macro_rules | `(tactic| walk_at "ln") => `(tactic| first | assumption | exact Nat.le_of_ble_eq_true rfl | (simp only [List.length_append, List.length_map, List.length_cons, List.length_nil]; simp only [PySem.sizeLine]; omega))
local macro_rules | `(tactic| walk_at "st") => `(tactic| first | assumption | exact L2.SqT.of (by walk_at "hp"))
local macro_rules | `(tactic| walk_at "go1") => `(tactic| first | walk_at "sx1" | ((with_reducible refine' My.x_ixL ?x0 ?x1 ?x2); (case x0 => walk_at "sq"); (case x1 => exact rfl)) | ((with_reducible refine' My.x_ixT ?x0 ?x1 ?x2); (case x0 => walk_at "st"); (case x1 => exact rfl)) | ((with_reducible refine' My.x_i ?x0 ?x1); (case x0 => walk_at "sd")) | ((with_reducible refine' My.x_setL ?x0 ?x1 ?x2); (case x0 => walk_at "hp"); (case x1 => exact rfl)) | ((with_reducible refine' My.x_len ?x0 ?x1); (case x0 => walk_at "sq")) | ((with_reducible refine' My.x_lenT ?x0 ?x1); (case x0 => walk_at "st")) | ((with_reducible refine' My.x_lenD ?x0 ?x1); (case x0 => walk_at "hp")) | ((with_reducible refine' My.x_append ?x0 ?x1 ?x2); (case x0 => walk_at "hp"); (case x1 => walk_at "ln")) | ((with_reducible refine' My.x_tyL ?x0 ?x1); (case x0 => walk_at "hp")) | ((with_reducible refine' My.x_ilistE ?x0 ?x1); (case x0 => walk_at "sq")) | ((with_reducible refine' My.x_ienumE ?x0 ?x1); (case x0 => walk_at "sq")) | ((with_reducible refine' My.x_sortI ?x0 ?x1); (case x0 => walk_at "sq")) | ((with_reducible refine' My.x_slL ?x0 ?x1); (case x0 => walk_at "sq")) | ((with_reducible refine' My.x_revL2 ?x0 ?x1); (case x0 => walk_at "sq")) | ((with_reducible refine' My.x_eq ?x0 ?x1); (case x0 => exact rfl)) | ((with_reducible refine' My.x_ne ?x0 ?x1); (case x0 => exact rfl)) | ((with_reducible refine' My.x_dputI ?x0 ?x1 ?x2); (case x0 => walk_at "hp"); (case x1 => walk_at "ln")) | ((with_reducible refine' My.x_dputS ?x0 ?x1 ?x2); (case x0 => walk_at "hp"); (case x1 => walk_at "ln")) | ((with_reducible refine' My.x_seqof ?x0 ?x1); (case x0 => walk_at "sq")) | ((with_reducible refine' My.x_gtup ?x0 ?x1 ?x2); (case x0 => walk_at "st"); (case x1 => exact rfl)) | ((with_reducible refine' My.x_mem1 ?x0 ?x1); (case x0 => walk_at "ln")))
local macro_rules | `(tactic| walk_at "go") => `(tactic| repeat (walk_at "go1"))
local macro_rules | `(tactic| walk_at "sx1") => `(tactic| first | with_reducible refine My.x_gx ?_ | with_reducible refine My.x_gxK ?_ | with_reducible refine My.x_gi ?_ | with_reducible refine My.x_gst ?_ | with_reducible refine My.x_xg ?_ | with_reducible refine My.x_nF ?_ | with_reducible refine My.x_nT ?_ | with_reducible refine My.x_fld ?_ | with_reducible refine My.x_sfld ?_ | with_reducible refine My.x_meth ?_ | with_reducible refine My.x_make ?_ | with_reducible refine My.x_din ?_ | with_reducible refine My.x_dnin ?_ | with_reducible refine My.x_ikeys ?_ | with_reducible refine My.x_itup ?_ | with_reducible refine My.x_mkO ?_ | with_reducible refine My.x_vei ?_ | with_reducible refine My.x_ost ?_ | with_reducible refine My.x_nF ?_ | with_reducible refine My.x_nT ?_)
local macro_rules | `(tactic| walk_at "go1") => `(tactic| first | ((with_reducible refine' My.x_fldE ?x0 ?x1 ?x2 ?x3 ?x4); (case x0 => walk_at "hp"); (case x1 => assumption); (case x2 => assumption); (case x3 => exact rfl)) | ((with_reducible refine' My.x_sfldE ?x0 ?x1 ?x2 ?x3 ?x4 ?x5); (case x0 => walk_at "hp"); (case x1 => assumption); (case x2 => assumption); (case x3 => decide); (case x4 => exact rfl)) | ((with_reducible refine' My.x_methE ?x0 ?x1 ?x2); (case x0 => walk_at "hp"); (case x1 => exact rfl)) | ((with_reducible refine' My.x_itupE ?x0 ?x1); (case x0 => walk_at "st")))
namespace K01
open PySem PySem.Spec PyProof.Rows L2
/-- the queue's pairs -/
def Qs (H : Hp) (ts : List Addr) (qs : List (Nat × V)) : Prop := Paired (fun t p => H t = some (.tup [.int (p.1 : Nat), p.2])) ts qs
theorem Qs.at {H : Hp} {ts : List Addr} {qs : List (Nat × V)} (h : Qs H ts qs) : ∀ (k : Nat) (t : Addr), ts[k]? = some t → ∃ p, qs[k]? = some p ∧ H t = some (.tup [.int (p.1 : Nat), p.2]) := by
  unfold Qs at h
  induction h with
  | nil => intro k t e; cases e
  | cons h1 h2 ih =>
    intro k t e
    cases k with
    | zero => cases e; exact ⟨_, rfl, h1⟩
    | succ k => exact ih k t e
theorem Qs.len {H : Hp} {ts : List Addr} {qs : List (Nat × V)} (h : Qs H ts qs) : ts.length = qs.length := Paired.length h
theorem Qs.imp {H H' : Hp} {ts : List Addr} {qs : List (Nat × V)} (h : Qs H ts qs) (k : ∀ t x, H t = some (.tup x) → H' t = some (.tup x)) : Qs H' ts qs := Paired.mapP h fun _ _ e => k _ _ e
theorem Qs.same {H H' : Hp} {ts : List Addr} {qs : List (Nat × V)} (h : Qs H ts qs) (S : Same H H') : Qs H' ts qs := h.imp fun _ _ e => S _ _ e
theorem Qs.snoc {H : Hp} {ts : List Addr} {qs : List (Nat × V)} {t : Addr} {n : Nat} {v : V} (h : Qs H ts qs) (e : H t = some (.tup [.int (n : Nat), v])) : Qs H (ts ++ [t]) (qs ++ [(n, v)]) := by
  unfold Qs at h ⊢
  induction h with
  | nil => exact .cons e .nil
  | cons h1 _ ih => exact .cons h1 ih
/-- written in order -/
def wr (bs : List V) (qs : List (Nat × V)) : List V := qs.foldl (fun l p => l.set p.1 p.2) bs
theorem wr_len (qs : List (Nat × V)) : ∀ bs : List V, (wr bs qs).length = bs.length := by
  induction qs with
  | nil => intro bs; rfl
  | cons p r ih => intro bs; show (wr (bs.set p.1 p.2) r).length = _; rw [ih, List.length_set]
theorem wr_snoc {bs : List V} {qs : List (Nat × V)} {k : Nat} {p : Nat × V} (h : qs[k]? = some p) : wr bs (qs.take (k + 1)) = (wr bs (qs.take k)).set p.1 p.2 := by
  rw [List.take_add_one, h]
  show List.foldl _ _ (qs.take k ++ [p]) = _
  rw [List.foldl_append]
  rfl
def sp_write (K : PySem.W.Frag) : Sp := fun vs H Q E => ∃ (a dx b s q : Addr) (bs ss : List V) (ts : List Addr) (n : Nat) (z : Str), vs = [.ref a, .int n, .str z] ∧ DkB K H a dx b s q bs ss ts ∧ ss.length = bs.length ∧ bs.length ≤ 1000 ∧ ts.length ≤ 1000 ∧
  n < bs.length ∧ okT z = true ∧
  ∀ (t : Addr) (H' : Hp), H t = none → H' t = some (.tup [.int n, .str z]) → (∀ c o, c ≠ s → c ≠ q → H c = some o → H' c = some o) → DkB K H' a dx b s q bs (ss.set n (.str z)) (ts ++ [t]) → Q .non H'
def sp_flush (K : PySem.W.Frag) : Sp := fun vs H Q E => ∃ (a dx b s q : Addr) (bs ss : List V) (ts : List Addr) (qs : List (Nat × V)), vs = [.ref a] ∧ DkB K H a dx b s q bs ss ts ∧ Qs H ts qs ∧ (∀ p ∈ qs, p.1 < bs.length) ∧ ts.length ≤ 1000 ∧
  ∀ (q' : Addr) (H' : Hp), H q' = none → (∀ c o, c ≠ a → c ≠ b → H c = some o → H' c = some o) → DkB K H' a dx b s q' (wr bs qs) ss [] → Q .non H'
def sp_pend (K : PySem.W.Frag) : Sp := fun vs H Q _ => ∃ (a dx b s q : Addr) (bs ss : List V) (ts : List Addr) (qs : List (Nat × V)), vs = [.ref a] ∧ DkB K H a dx b s q bs ss ts ∧ Qs H ts qs ∧ ts.length ≤ 1000 ∧
  ∀ (p : Addr) (H' : Hp), H p = none → Same H H' → H' p = some (.lst (qs.map fun p => .int (p.1 : Nat))) → Q (.ref p) H'
def sp_lose (K : PySem.W.Frag) : Sp := fun vs H Q E => ∃ (a dx b s q : Addr) (bs ss : List V) (ts : List Addr) (qs : List (Nat × V)) (n : Nat), vs = [.ref a, .int n] ∧ DkB K H a dx b s q bs ss ts ∧ Qs H ts qs ∧ ss.length = bs.length ∧ n < bs.length ∧ ts.length ≤ 1000 ∧
  ∀ (q' : Addr) (ts' : List Addr) (H' : Hp), H q' = none → (∀ c o, c ≠ a → c ≠ b → c ≠ s → H c = some o → H' c = some o) → DkB K H' a dx b s q' (bs.set n .non) (ss.set n .non) ts' → Qs H' ts' (qs.filter fun p => decide (p.1 ≠ n)) → Q .non H'
section
variable {P : Program} {w : World} {K : PySem.W.Frag} {mg : Str → Option Value} {base : Heap} {t1 t2 : Tok}
theorem ixN_at {n j : Nat} (hj : j < n) : ixN n (j : Int) = some j := by
  unfold ixN
  rw [if_pos (Int.natCast_nonneg j), if_pos (Int.ofNat_lt.mpr hj), Int.toNat_natCast]
theorem ok_write (T : Tx K mg t1 t2) {fd : FuncData} (F : Fd K d_Disk_write fd) (C_require : My.Cm P w K mg base CX0 "Disk" "require" ["self", "block"] 3 (sp_req K)) (C_is_text : My.Cl P w K mg base "is_text" ["value", "most"] 1 sp_text)
    (C_use_power : My.Cm P w K mg base CX0 "Disk" "use_power" ["self"] 3 (sp_pow K)) :
    FnOk P w K mg base CX0 4 (He.fAd K d_Disk_write.at_) fd ["self", "block", "text"] (sp_write K) := by
  refine F.ok sc_Disk_write (fun vs H Q E h => ?_) (fun cdv A outer s H vs Q E hr h => ?_)
  · obtain ⟨a, dx, b, s, q, bs, ss, ts, n, z, rfl, _⟩ := h
    rfl
  · obtain ⟨a, dx, b, s', q, bs, ss, ts, n, z, rfl, hD, hl, hb, ht, hn, hz, h⟩ := h
    have fc := T.cls
    have fn := T.ns
    have fm := T.nq
    refine ⟨_, PSs.nox ((pss_cons (ps_expr (My.pe_cm C_require (hr.mono (by decide)) pass0 (pv 0) (pa_cons (pv 1) pa_nil)))
  (pss_cons (ps_if (pt_not (pt_val (My.pe_cl C_is_text (hr.mono (by decide)) rfl (pa_cons (pv 2) (pa_cons (pe_glob (v := .int 4000) rfl T.g_MAX_SIGNS ⟨_, rfl⟩) pa_nil)))))
  (pss_one ps_never)
  pss_nil)
  (pss_cons (ps_expr (My.pe_cm0 C_use_power (hr.mono (by decide)) pass0 (pv 0)))
  (pss_cons (ps_expr (pe_bm PySem.F.plainAttrs_list PySem.F.slot_list_append PySem.F.type_list_append mt_append (My.pe_fldK (K := K) (by rfl) (pv 0) (by rfl)) (pa_cons (pe_tup (pa_cons (pv 1) (pa_cons (pv 2) pa_nil))) pa_nil)))
  (pss_one (ps_asg (pv 2) (pg_sub (My.pe_fldK (K := K) (by rfl) (pv 0) (by rfl)) (pv 1) set_list)))))))), ?_⟩
    refine My.x_start (σ := [some (V.ref a), some (V.int n), some (V.str z)]) rfl ?_
    try dsimp only [cxOf, Cx.nox]
    have fa := hD.ha
    walk_at "go"
    refine ⟨a, dx, b, s', q, bs, ss, ts, n, rfl, hD, hn, ?_⟩
    walk_at "go"
    refine ⟨z, rfl, hz, fun H1 S => ?_⟩
    have hD1 := hD.same S
    replace fa := hD1.ha
    walk_at "go"
    refine ⟨a, dx, b, s', q, bs, ss, ts, rfl, hD1, ?_⟩
    obtain ⟨ga, gb, gs, gq, m1, m2, m3⟩ := hD1
    walk_at "go"
    intro p hp
    have np : H p = none := S.free hp
    have k3 : Same H (upd H1 p (.tup [V.int n, V.str z])) := S.trans (My.Same.new (Same.refl H1) hp)
    have gp : upd H1 p (.tup [V.int n, V.str z]) p = some (.tup [V.int n, V.str z]) := upd_same
    have pa : p ≠ a := (ne_of_none ga hp).symm
    have ps : p ≠ s' := (ne_of_none gs hp).symm
    have pb : p ≠ b := (ne_of_none gb hp).symm
    have pq : p ≠ q := (ne_of_none gq hp).symm
    replace ga : upd H1 p (.tup [V.int n, V.str z]) a = some (.ins (CD K) dx (flds b s' q)) := by rw [upd_ne pa.symm]; exact ga
    replace gb : upd H1 p (.tup [V.int n, V.str z]) b = some (.lst bs) := by rw [upd_ne pb.symm]; exact gb
    replace gs : upd H1 p (.tup [V.int n, V.str z]) s' = some (.lst ss) := by rw [upd_ne ps.symm]; exact gs
    replace gq : upd H1 p (.tup [V.int n, V.str z]) q = some (.lst (ts.map V.ref)) := by rw [upd_ne pq.symm]; exact gq
    generalize upd H1 p (.tup [V.int n, V.str z]) = H3 at k3 gp ga gb gs gq ⊢
    clear hp fa
    walk_at "go"
    have aq : a ≠ q := fun e => by rw [e, gq] at ga; cases ga
    have as' : a ≠ s' := fun e => by rw [e, gs] at ga; cases ga
    have ab : a ≠ b := fun e => by rw [e, gb] at ga; cases ga
    have gq2 : upd H3 q (.lst (ts.map V.ref ++ [V.ref p])) q = some (.lst (ts.map V.ref ++ [V.ref p])) := upd_same
    have ga2 : upd H3 q (.lst (ts.map V.ref ++ [V.ref p])) a = some (.ins (CD K) dx (flds b s' q)) := by rw [upd_ne aq]; exact ga
    have gb2 : upd H3 q (.lst (ts.map V.ref ++ [V.ref p])) b = some (.lst bs) := by rw [upd_ne m2]; exact gb
    have gs2 : upd H3 q (.lst (ts.map V.ref ++ [V.ref p])) s' = some (.lst ss) := by rw [upd_ne m3]; exact gs
    have gp2 : upd H3 q (.lst (ts.map V.ref ++ [V.ref p])) p = some (.tup [V.int n, V.str z]) := by rw [upd_ne pq]; exact gp
    have k4 : ∀ c o, c ≠ q → H c = some o → upd H3 q (.lst (ts.map V.ref ++ [V.ref p])) c = some o := fun c o h2 e => by rw [upd_ne h2]; exact k3 c o e
    generalize upd H3 q (.lst (ts.map V.ref ++ [V.ref p])) = H4 at gq2 ga2 gb2 gs2 gp2 k4 ⊢
    clear gp ga gb gs gq k3
    refine My.x_fldE ga2 fc fn rfl ?_
    refine ⟨_, rfl, s', ss, n, n, rfl, rfl, gs2, ixN_at (by omega), ?_⟩
    refine h p _ np ?_ (fun c o h2 h3 e => by rw [upd_ne h2]; exact k4 c o h3 e) ⟨?_, ?_, upd_same, ?_, m1, m2, m3⟩
    · rw [upd_ne ps]; exact gp2
    · rw [upd_ne as']; exact ga2
    · rw [upd_ne m1]; exact gb2
    · rw [upd_ne m3.symm, gq2, List.map_append]; rfl
theorem ok_flush (T : Tx K mg t1 t2) {fd : FuncData} (F : Fd K d_Disk_flush fd) (C_use_power : My.Cm P w K mg base CX0 "Disk" "use_power" ["self"] 3 (sp_pow K)) :
    FnOk P w K mg base CX0 4 (He.fAd K d_Disk_flush.at_) fd ["self"] (sp_flush K) := by
  refine F.ok sc_Disk_flush (fun vs H Q E h => ?_) (fun cdv A outer s H vs Q E hr h => ?_)
  · obtain ⟨a, dx, b, s, q, bs, ss, ts, qs, rfl, _⟩ := h
    rfl
  · obtain ⟨a, dx, b, s', q, bs, ss, ts, qs, rfl, hD, hQ, hlt, hz, h⟩ := h
    have fc := T.cls
    have fn := T.nb
    have fm := T.nq
    refine ⟨_, PSs.nox ((pss_cons (ps_expr (My.pe_cm0 C_use_power (hr.mono (by decide)) pass0 (pv 0)))
  (pss_cons (ps_for PassesOwn.never rfl (pi_list (My.pe_fldK (K := K) (by rfl) (pv 0) (by rfl))) (pg_tup (n := 2) (by rfl) (pgs_cons (pg_name (i := 1) sc_Disk_flush.nd rfl (Or.inl rfl)) (pgs_cons (pg_name (i := 2) sc_Disk_flush.nd rfl (Or.inl rfl)) pgs_nil)))
  (pss_one (ps_asg (pv 2) (pg_sub (My.pe_fldK (K := K) (by rfl) (pv 0) (by rfl)) (pv 1) set_list))))
  (pss_one (ps_fld (pv 0) (pe_lst pa_nil) rfl))))), ?_⟩
    refine My.x_start (σ := [some (V.ref a), none, none]) rfl ?_
    try dsimp only [cxOf, Cx.nox]
    have fa := hD.ha
    walk_at "go"
    refine ⟨a, dx, b, s', q, bs, ss, ts, rfl, hD, ?_⟩
    obtain ⟨ga, gb, gs, gq, m1, m2, m3⟩ := hD
    walk_at "go"
    refine My.for_runs (My.runs_list (K := K) (a := q) V.ref ts) (fun pre σ' H' => (∃ o1 o2, σ' = [some (V.ref a), o1, o2]) ∧ H' b = some (.lst (wr bs (qs.take pre.length))) ∧ (∀ c o, c ≠ b → H c = some o → H' c = some o) ∧ ∀ t, H' t = none → H t = none) ⟨⟨_, _, rfl⟩, gb, fun c o _ e => e, fun t e => e⟩ (fun pre post σ' H' _ z => SqL.of (z.2.2.1 _ _ m2.symm gq)) ?_ ?_
    · rintro pre t post σ' H3 v H4 hpre ⟨⟨o1, o2, rfl⟩, hb3, hk3, hn3⟩ ⟨rfl, rfl⟩
      obtain ⟨p, hp, ht⟩ := hQ.at pre.length t (by rw [hpre]; simp)
      have tb : t ≠ b := fun e => by rw [e, gb] at ht; cases ht
      have t4 := hk3 t _ tb ht
      have a4 := hk3 a _ (fun e => by rw [e, gb] at ga; cases ga) ga
      refine My.x_gtup (SqT.of t4) rfl ?_
      walk_at "go"
      refine ⟨b, _, _, p.1, rfl, rfl, hb3, ixN_at (by rw [wr_len]; exact hlt p (List.mem_of_getElem? hp)), ?_⟩
      refine ⟨⟨_, _, rfl⟩, ?_, fun c o hc e => by rw [upd_ne hc]; exact hk3 c o hc e, fun u e => ?_⟩
      · rw [upd_same, List.length_append, List.length_singleton, wr_snoc hp]
      · by_cases ub : u = b
        · rw [ub, upd_same] at e; cases e
        · rw [upd_ne ub] at e; exact hn3 u e
    · rintro σ' H3 ⟨⟨o1, o2, rfl⟩, hb3, hk3, hn3⟩
      rw [hQ.len, List.take_length] at hb3
      have ab : a ≠ b := fun e => by rw [e, gb] at ga; cases ga
      have a3 := hk3 a _ ab ga
      have s3 := hk3 s' _ m1.symm gs
      walk_at "go"
      intro q' hq'
      have qa : q' ≠ a := (ne_of_none a3 hq').symm
      have qb : q' ≠ b := (ne_of_none hb3 hq').symm
      have qs3 : q' ≠ s' := (ne_of_none s3 hq').symm
      have as' : a ≠ s' := fun e => by rw [e, gs] at ga; cases ga
      have a5 : upd H3 q' (.lst []) a = some (.ins (CD K) dx (flds b s' q)) := by rw [upd_ne qa.symm]; exact a3
      walk_at "go"
      refine My.x_sfldE a5 fc fm (by show 4 < 1000; decide) rfl ?_
      refine h q' _ (hn3 _ hq') (fun c o hc hb e => ?_) ⟨upd_same, ?_, ?_, ?_, m1, qb.symm, qs3.symm⟩
      · have z := hk3 c o hb e
        rw [upd_ne hc, upd_ne (ne_of_none z hq')]
        exact z
      · rw [upd_ne ab.symm, upd_ne qb.symm]; exact hb3
      · rw [upd_ne as'.symm, upd_ne qs3.symm]; exact s3
      · rw [upd_ne qa, upd_same]; rfl
theorem ok_pend (T : Tx K mg t1 t2) {fd : FuncData} {g : Addr} (F : FunD K d_Disk_pending.name d_Disk_pending.qual d_Disk_pending.params d_Disk_pending.body d_Disk_pending.scope (d_Disk_pending.dvs K) (d_Disk_pending.kws K) g fd) : FnOk P w K mg base CX0 1 g fd ["self"] (sp_pend K) := by
  refine F.ok sc_Disk_pending (fun vs H Q E h => ?_) (fun cdv A outer s H vs Q E hr h => ?_)
  · obtain ⟨a, dx, b, s, q, bs, ss, ts, qs, rfl, _⟩ := h
    rfl
  · obtain ⟨a, dx, b, s', q, bs, ss, ts, qs, rfl, hD, hQ, hz, h⟩ := h
    obtain ⟨fa, fb, fs, fq, _, _, _⟩ := hD
    have fc := T.cls
    have fn := T.nq
    refine ⟨_, PSs.nox ((pss_one (ps_ret (pe_lc (own := [("block", 1), ("text", 2)]) (g := gTup K 2 (gCons (gName 1) (gCons (gName 2) gNil))) (tt := tYes) rfl sc_Disk_pending.nd (pi_list (My.pe_fldK (K := K) (by rfl) (pv 0) (by rfl))) (blkOk_by (own := [("block", 1), ("text", 2)]) (N := ["self", "block", "text"]) (sc := defScope s_Disk_pending) (by decide +kernel)) (fun _ _ _ _ _ => pg_tupK (K := K) (by rfl) (by rfl) (pgs_cons (pg_name (i := 1) sc_Disk_pending.nd rfl (Or.inl rfl)) (pgs_cons (pg_name (i := 2) sc_Disk_pending.nd rfl (Or.inl rfl)) pgs_nil))) (fun _ _ _ _ _ => pts_nil) (fun _ _ _ _ _ => (pv 1)))))), ?_⟩
    refine My.x_start (σ := [some (V.ref a), none, none]) rfl ?_
    try dsimp only [cxOf, Cx.nox]
    walk_at "go"
    intro L hL
    refine My.lc_runs (My.runs_list (K := K) (a := q) V.ref ts) (fun pre H' => Same H H' ∧ H' L = some (.lst ((qs.take pre.length).map fun p => .int (p.1 : Nat)))) ⟨My.Same.new (Same.refl H) hL, upd_same⟩ (fun pre post H' _ z => SqL.of (z.1 _ _ fq)) ?_ ?_
    · rintro pre t post H3 v H4 hpre ⟨S, gL⟩ ⟨rfl, rfl⟩
      obtain ⟨p, hp, ht⟩ := hQ.at pre.length t (by rw [hpre]; simp)
      refine My.x_gtup (SqT.of (S _ _ ht)) rfl ?_
      refine ⟨_, _, rfl, ?_⟩
      refine ⟨_, _, rfl, ?_⟩
      refine ⟨rfl, ?_⟩
      refine ⟨rfl, ?_⟩
      walk_at "go"
      refine ⟨_, rfl, ?_⟩
      have hLn : H L = none := hL
      refine ⟨_, gL, by rw [List.length_map, List.length_take, sizeLine_eq, ← hQ.len]; omega, My.Same.mut S hLn, ?_⟩
      rw [upd_same, List.length_append, List.length_singleton, List.take_add_one, hp, List.map_append]
      rfl
    · rintro H3 ⟨S, gL⟩
      rw [hQ.len, List.take_length] at gL
      exact h L H3 hL S gL
theorem ok_lose (T : Tx K mg t1 t2) {fd : FuncData} (F : Fd K d_Disk_lose fd) (C_require : My.Cm P w K mg base CX0 "Disk" "require" ["self", "block"] 3 (sp_req K)) :
    FnOk P w K mg base CX0 4 (He.fAd K d_Disk_lose.at_) fd ["self", "block"] (sp_lose K) := by
  refine F.ok sc_Disk_lose (fun vs H Q E h => ?_) (fun cdv A outer s H vs Q E hr h => ?_)
  · obtain ⟨a, dx, b, s, q, bs, ss, ts, qs, n, rfl, _⟩ := h
    rfl
  · obtain ⟨a, dx, b, s', q, bs, ss, ts, qs, n, rfl, hD, hQ, hl, hn, hz, h⟩ := h
    have fc := T.cls
    have fb := T.nb
    have fs := T.ns
    have fq := T.nq
    refine ⟨_, PSs.nox ((pss_cons (ps_expr (My.pe_cm C_require (hr.mono (by decide)) pass0 (pv 0) (pa_cons (pv 1) pa_nil)))
  (pss_cons (ps_asg pe_non (pg_sub (My.pe_fldK (K := K) (by rfl) (pv 0) (by rfl)) (pv 1) set_list))
  (pss_cons (ps_asg pe_non (pg_sub (My.pe_fldK (K := K) (by rfl) (pv 0) (by rfl)) (pv 1) set_list))
  (pss_one (ps_fld (pv 0) (pe_lc (own := [("other", 2), ("text", 3)]) (g := gTup K 2 (gCons (gName 2) (gCons (gName 3) gNil)))  rfl sc_Disk_lose.nd (pi_list (My.pe_fldK (K := K) (by rfl) (pv 0) (by rfl))) (blkOk_by (own := [("other", 2), ("text", 3)]) (N := ["self", "block", "other", "text"]) (sc := defScope s_Disk_lose) (by decide +kernel)) (fun _ _ _ _ _ => pg_tupK (K := K) (by rfl) (by rfl) (pgs_cons (pg_name (i := 2) sc_Disk_lose.nd rfl (Or.inl rfl)) (pgs_cons (pg_name (i := 3) sc_Disk_lose.nd rfl (Or.inl rfl)) pgs_nil))) (fun _ _ _ _ _ => pts_one (pt_cmpR op_ne (pv 2) (pv 1) (nomark _))) (fun _ _ _ _ _ => (pe_tup (pa_cons (pv 2) (pa_cons (pv 3) pa_nil))))) rfl)))))), ?_⟩
    refine My.x_start (σ := [some (V.ref a), some (V.int n), none, none]) rfl ?_
    try dsimp only [cxOf, Cx.nox]
    have fa := hD.ha
    walk_at "go"
    refine ⟨a, dx, b, s', q, bs, ss, ts, n, rfl, hD, hn, ?_⟩
    obtain ⟨ga, gb, gs, gq, m1, m2, m3⟩ := hD
    have ab : a ≠ b := fun e => by rw [e, gb] at ga; cases ga
    have as' : a ≠ s' := fun e => by rw [e, gs] at ga; cases ga
    have aq : a ≠ q := fun e => by rw [e, gq] at ga; cases ga
    walk_at "go"
    refine ⟨b, bs, n, n, rfl, rfl, gb, ixN_at hn, ?_⟩
    have a1 : upd H b (.lst (bs.set n .non)) a = some (.ins (CD K) dx (flds b s' q)) := by rw [upd_ne ab]; exact ga
    have s1 : upd H b (.lst (bs.set n .non)) s' = some (.lst ss) := by rw [upd_ne m1.symm]; exact gs
    walk_at "go"
    refine ⟨s', ss, n, n, rfl, rfl, s1, ixN_at (by omega), ?_⟩
    have k2 : ∀ c o, c ≠ b → c ≠ s' → H c = some o → upd (upd H b (.lst (bs.set n .non))) s' (.lst (ss.set n .non)) c = some o := fun c o h1 h2 e => by rw [upd_ne h2, upd_ne h1]; exact e
    have a2 := k2 a _ ab as' ga
    have q2 := k2 q _ m2.symm m3.symm gq
    have b2 : upd (upd H b (.lst (bs.set n .non))) s' (.lst (ss.set n .non)) b = some (.lst (bs.set n .non)) := by rw [upd_ne m1, upd_same]
    have s2 : upd (upd H b (.lst (bs.set n .non))) s' (.lst (ss.set n .non)) s' = some (.lst (ss.set n .non)) := upd_same
    have n2 : ∀ t, upd (upd H b (.lst (bs.set n .non))) s' (.lst (ss.set n .non)) t = none → H t = none := fun t e => by
      by_cases h1 : t = s'
      · rw [h1, s2] at e; cases e
      · by_cases h3 : t = b
        · rw [h3, b2] at e; cases e
        · rw [upd_ne h1, upd_ne h3] at e; exact e
    have Q2 : Qs (upd (upd H b (.lst (bs.set n .non))) s' (.lst (ss.set n .non))) ts qs := hQ.imp fun t x e => k2 t _ (fun z => by rw [z, gb] at e; cases e) (fun z => by rw [z, gs] at e; cases e) e
    clear a1 s1
    generalize upd (upd H b (.lst (bs.set n .non))) s' (.lst (ss.set n .non)) = H2 at k2 a2 q2 b2 s2 n2 Q2 ⊢
    walk_at "go"
    intro L hL
    refine My.lc_runs (My.runs_list (K := K) (a := q) V.ref ts) (fun pre H' => Same H2 H' ∧ ∃ us, H' L = some (.lst (us.map V.ref)) ∧ us.length ≤ pre.length ∧ Qs H' us ((qs.take pre.length).filter fun p => decide (p.1 ≠ n))) ⟨My.Same.new (Same.refl H2) hL, [], upd_same, Nat.le_refl _, .nil⟩ (fun pre post H' _ z => SqL.of (z.1 _ _ q2)) ?_ ?_
    · rintro pre t post H3 v H4 hpre ⟨S, us, gL, hus, Qu⟩ ⟨rfl, rfl⟩
      obtain ⟨p, hp, ht⟩ := Q2.at pre.length t (by rw [hpre]; simp)
      have hlen : pre.length < 1000 := by
        have := congrArg List.length hpre
        rw [List.length_append, List.length_cons] at this
        omega
      have etk : (qs.take (pre ++ [t]).length).filter (fun p => decide (p.1 ≠ n)) = (qs.take pre.length).filter (fun p => decide (p.1 ≠ n)) ++ (if p.1 ≠ n then [p] else []) := by
        rw [List.length_append, List.length_singleton, List.take_add_one, hp, List.filter_append]
        congr 1
        by_cases hc : p.1 = n
        · simp [hc]
        · simp [hc]
      refine My.x_gtup (SqT.of (S _ _ ht)) rfl ?_
      refine ⟨_, _, rfl, ?_⟩
      refine ⟨_, _, rfl, ?_⟩
      refine ⟨rfl, ?_⟩
      refine ⟨rfl, ?_⟩
      walk_at "go"
      refine ⟨_, rfl, _, rfl, rfl, ?_⟩
      by_cases hc : p.1 = n
      · have e : (!decide (V.int (p.1 : Nat) = V.int (n : Nat))) = false := by rw [hc]; simp
        rw [e]
        walk_at "go"
        refine ⟨S, us, gL, by rw [List.length_append]; omega, ?_⟩
        rw [etk, if_neg (fun z => z hc), List.append_nil]
        exact Qu
      · have e : (!decide (V.int (p.1 : Nat) = V.int (n : Nat))) = true := by
          rw [decide_eq_false (fun z => hc (by injection z with z; exact Int.ofNat.inj z))]; rfl
        rw [e]
        simp only [List.map_cons, List.map_nil, wipe, List.set_cons_succ, List.set_cons_zero]
        walk_at "go"
        intro T' hT'
        have gL4 : upd H4 T' (.tup [V.int (p.1 : Nat), p.2]) L = some (.lst (us.map V.ref)) := by rw [upd_ne (ne_of_none gL hT')]; exact gL
        refine ⟨_, gL4, by rw [List.length_map, sizeLine_eq]; omega, ?_⟩
        have hLn : H2 L = none := hL
        have S4 := My.Same.new (o := .tup [V.int (p.1 : Nat), p.2]) S hT'
        refine ⟨My.Same.mut S4 hLn, us ++ [T'], by rw [upd_same, List.map_append]; rfl, by rw [List.length_append, List.length_append]; simp; omega, ?_⟩
        rw [etk, if_pos hc]
        have TL : T' ≠ L := (ne_of_none gL hT').symm
        refine Qs.snoc (Qu.imp fun u x e => ?_) (by rw [upd_ne TL, upd_same])
        rw [upd_ne (fun z => by rw [z, gL] at e; cases e), upd_ne (ne_of_none e hT')]
        exact e
    · rintro H3 ⟨S, us, gL, _, Qu⟩
      rw [hQ.len, List.take_length] at Qu
      have a3 := S _ _ a2
      have L0 : H L = none := n2 _ hL
      have La : L ≠ a := (ne_of_none a2 hL).symm
      walk_at "go"
      refine My.x_sfldE a3 fc fq (by show 4 < 1000; decide) rfl ?_
      have hbL : b ≠ L := ne_of_none b2 hL
      have hsL : s' ≠ L := ne_of_none s2 hL
      refine h L us _ L0 (fun c o h1 h2 h3 e => by rw [upd_ne h1]; exact S _ _ (k2 c o h2 h3 e)) ⟨upd_same, ?_, ?_, ?_, m1, hbL, hsL⟩ (Qu.imp fun u x e => ?_)
      · rw [upd_ne ab.symm]; exact S _ _ b2
      · rw [upd_ne as'.symm]; exact S _ _ s2
      · rw [upd_ne La]; exact gL
      · rw [upd_ne (fun z => by rw [z, a3] at e; cases e)]; exact e
end
end K01

end

section
local macro_rules | `(tactic| walk_at "ne") => `(tactic| first | assumption | (apply Ne.symm; assumption) | exact L2.ne_of_none (by assumption) (by assumption) | exact (L2.ne_of_none (by assumption) (by assumption)).symm)
local macro_rules | `(tactic| walk_at "hp") => `(tactic| first | assumption | exact L2.upd_same | (rw [L2.upd_ne (by walk_at "ne")]; walk_at "hp"))
local macro_rules | `(tactic| walk_at "sq") => `(tactic| first | assumption | exact L2.SqL.of (by walk_at "hp") | exact My.sq_new (by walk_at "sq") (by assumption))
local macro_rules | `(tactic| walk_at "sd") => `(tactic| first | decide | omega | (unfold L2.CDivN; omega) | (unfold L2.CMul; omega) | (unfold L2.CPow; omega))
local macro_rules | `(tactic| walk_at "sx1") => `(tactic| first | with_reducible refine My.x_seq ?_ | with_reducible refine My.x_asg ?_ | with_reducible refine My.x_ret ?_ | with_reducible refine My.x_next ?_ | with_reducible refine My.x_op ?_ | with_reducible refine My.x_c ?_ | with_reducible refine My.x_ifs ?_ | with_reducible refine My.x_test ?_ | with_reducible refine My.x_exbl ?_ | with_reducible refine My.x_cons ?_ | with_reducible refine My.x_nil ?_ | with_reducible refine My.x_cb ?_ | with_reducible refine My.x_drop ?_ | with_reducible refine My.x_par ?_ | with_reducible refine My.x_exp2 ?_ | with_reducible refine My.x_aug ?_ | with_reducible refine My.x_if ?_ | with_reducible refine My.x_tB ?_ | with_reducible refine My.x_and ?_ | with_reducible refine My.x_or ?_ | with_reducible refine My.x_not ?_ | with_reducible refine My.x_retn ?_ | with_reducible refine My.x_cont ?_ | with_reducible refine My.x_brk ?_ | with_reducible refine My.x_un ?_ | with_reducible refine My.x_tfor ?_ | with_reducible refine My.x_ilist ?_ | with_reducible refine My.x_rng1 ?_ | with_reducible refine My.x_rng2 ?_ | with_reducible refine My.x_r1 ?_ | with_reducible refine My.x_call ?_ | with_reducible refine My.x_sl ?_ | with_reducible refine My.x_part ?_ | with_reducible refine My.x_nopart ?_ | with_reducible refine My.x_ii0 ?_ | with_reducible refine My.x_yes ?_ | with_reducible refine My.x_andv ?_ | with_reducible refine My.x_orv ?_ | with_reducible refine My.x_notv ?_ | with_reducible refine My.x_iT ?_ | with_reducible refine My.x_iF ?_ | with_reducible refine My.x_chain ?_ | with_reducible refine My.x_exI ?_ | with_reducible refine My.x_wipe ?_ | with_reducible refine My.x_bm ?_ | with_reducible refine My.x_bm0 ?_ | with_reducible refine My.x_gsub ?_ | with_reducible refine My.x_int1 ?_ | with_reducible refine My.x_two ?_ | with_reducible refine My.x_lst ?_ | with_reducible refine My.x_tup ?_ | with_reducible refine My.x_revL ?_ | with_reducible refine My.x_dput ?_ | with_reducible refine My.x_dget ?_ | with_reducible refine My.x_dnew ?_ | with_reducible refine My.x_dc ?_ | with_reducible refine My.x_lc ?_ | with_reducible refine My.x_ienum ?_ | with_reducible refine My.x_gcons ?_ | with_reducible refine My.x_gnil ?_ | with_reducible refine My.x_v0 ?_ | with_reducible refine My.x_v1 ?_ | with_reducible refine My.x_v2 ?_ | with_reducible refine My.x_v3 ?_ | with_reducible refine My.x_v4 ?_ | with_reducible refine My.x_v5 ?_ | with_reducible refine My.x_v6 ?_ | with_reducible refine My.x_v7 ?_ | with_reducible refine My.x_v8 ?_ | with_reducible refine My.x_v9 ?_ | with_reducible refine My.x_v10 ?_ | with_reducible refine My.x_v11 ?_ | with_reducible refine My.x_v12 ?_ | with_reducible refine My.x_v13 ?_ | with_reducible refine My.x_v14 ?_ | with_reducible refine My.x_v15 ?_ | with_reducible refine My.x_v16 ?_ | with_reducible refine My.x_v17 ?_ | with_reducible refine My.x_v18 ?_ | with_reducible refine My.x_v19 ?_ | with_reducible refine My.x_v20 ?_ | with_reducible refine My.x_v21 ?_ | with_reducible refine My.x_v22 ?_ | with_reducible refine My.x_v23 ?_ | with_reducible refine My.x_v24 ?_ | with_reducible refine My.x_v25 ?_ | with_reducible refine My.x_g0 ?_ | with_reducible refine My.x_g1 ?_ | with_reducible refine My.x_g2 ?_ | with_reducible refine My.x_g3 ?_ | with_reducible refine My.x_g4 ?_ | with_reducible refine My.x_g5 ?_ | with_reducible refine My.x_g6 ?_ | with_reducible refine My.x_g7 ?_ | with_reducible refine My.x_g8 ?_ | with_reducible refine My.x_g9 ?_ | with_reducible refine My.x_g10 ?_ | with_reducible refine My.x_g11 ?_ | with_reducible refine My.x_g12 ?_ | with_reducible refine My.x_g13 ?_ | with_reducible refine My.x_g14 ?_ | with_reducible refine My.x_g15 ?_ | with_reducible refine My.x_g16 ?_ | with_reducible refine My.x_g17 ?_ | with_reducible refine My.x_g18 ?_ | with_reducible refine My.x_g19 ?_ | with_reducible refine My.x_g20 ?_ | with_reducible refine My.x_g21 ?_ | with_reducible refine My.x_g22 ?_ | with_reducible refine My.x_g23 ?_ | with_reducible refine My.x_g24 ?_ | with_reducible refine My.x_g25 ?_)
local macro_rules | `(tactic| walk_at "sx") => `(tactic| repeat (walk_at "sx1"))
local macro_rules | `(tactic| walk_at "ln") => `(tactic| first | assumption | exact Nat.le_of_ble_eq_true rfl | (simp only [List.length_append, List.length_map, List.length_cons, List.length_nil]; simp only [PySem.sizeLine]; omega))
local macro_rules | `(tactic| walk_at "st") => `(tactic| first | assumption | exact L2.SqT.of (by walk_at "hp"))
local macro_rules | `(tactic| walk_at "go1") => `(tactic| first | walk_at "sx1" | ((with_reducible refine' My.x_ixL ?x0 ?x1 ?x2); (case x0 => walk_at "sq"); (case x1 => exact rfl)) | ((with_reducible refine' My.x_ixT ?x0 ?x1 ?x2); (case x0 => walk_at "st"); (case x1 => exact rfl)) | ((with_reducible refine' My.x_i ?x0 ?x1); (case x0 => walk_at "sd")) | ((with_reducible refine' My.x_setL ?x0 ?x1 ?x2); (case x0 => walk_at "hp"); (case x1 => exact rfl)) | ((with_reducible refine' My.x_len ?x0 ?x1); (case x0 => walk_at "sq")) | ((with_reducible refine' My.x_lenT ?x0 ?x1); (case x0 => walk_at "st")) | ((with_reducible refine' My.x_lenD ?x0 ?x1); (case x0 => walk_at "hp")) | ((with_reducible refine' My.x_append ?x0 ?x1 ?x2); (case x0 => walk_at "hp"); (case x1 => walk_at "ln")) | ((with_reducible refine' My.x_tyL ?x0 ?x1); (case x0 => walk_at "hp")) | ((with_reducible refine' My.x_ilistE ?x0 ?x1); (case x0 => walk_at "sq")) | ((with_reducible refine' My.x_ienumE ?x0 ?x1); (case x0 => walk_at "sq")) | ((with_reducible refine' My.x_sortI ?x0 ?x1); (case x0 => walk_at "sq")) | ((with_reducible refine' My.x_slL ?x0 ?x1); (case x0 => walk_at "sq")) | ((with_reducible refine' My.x_revL2 ?x0 ?x1); (case x0 => walk_at "sq")) | ((with_reducible refine' My.x_eq ?x0 ?x1); (case x0 => exact rfl)) | ((with_reducible refine' My.x_ne ?x0 ?x1); (case x0 => exact rfl)) | ((with_reducible refine' My.x_dputI ?x0 ?x1 ?x2); (case x0 => walk_at "hp"); (case x1 => walk_at "ln")) | ((with_reducible refine' My.x_dputS ?x0 ?x1 ?x2); (case x0 => walk_at "hp"); (case x1 => walk_at "ln")) | ((with_reducible refine' My.x_seqof ?x0 ?x1); (case x0 => walk_at "sq")) | ((with_reducible refine' My.x_gtup ?x0 ?x1 ?x2); (case x0 => walk_at "st"); (case x1 => exact rfl)) | ((with_reducible refine' My.x_mem1 ?x0 ?x1); (case x0 => walk_at "ln")))
local macro_rules | `(tactic| walk_at "go") => `(tactic| repeat (walk_at "go1"))
local macro_rules | `(tactic| walk_at "sx1") => `(tactic| first | with_reducible refine My.x_gx ?_ | with_reducible refine My.x_gxK ?_ | with_reducible refine My.x_gi ?_ | with_reducible refine My.x_gst ?_ | with_reducible refine My.x_xg ?_ | with_reducible refine My.x_nF ?_ | with_reducible refine My.x_nT ?_ | with_reducible refine My.x_fld ?_ | with_reducible refine My.x_sfld ?_ | with_reducible refine My.x_meth ?_ | with_reducible refine My.x_make ?_ | with_reducible refine My.x_din ?_ | with_reducible refine My.x_dnin ?_ | with_reducible refine My.x_ikeys ?_ | with_reducible refine My.x_itup ?_ | with_reducible refine My.x_mkO ?_ | with_reducible refine My.x_vei ?_ | with_reducible refine My.x_ost ?_ | with_reducible refine My.x_nF ?_ | with_reducible refine My.x_nT ?_)
local macro_rules | `(tactic| walk_at "go1") => `(tactic| first | ((with_reducible refine' My.x_fldE ?x0 ?x1 ?x2 ?x3 ?x4); (case x0 => walk_at "hp"); (case x1 => assumption); (case x2 => assumption); (case x3 => exact rfl)) | ((with_reducible refine' My.x_sfldE ?x0 ?x1 ?x2 ?x3 ?x4 ?x5); (case x0 => walk_at "hp"); (case x1 => assumption); (case x2 => assumption); (case x3 => decide); (case x4 => exact rfl)) | ((with_reducible refine' My.x_methE ?x0 ?x1 ?x2); (case x0 => walk_at "hp"); (case x1 => exact rfl)) | ((with_reducible refine' My.x_itupE ?x0 ?x1); (case x0 => walk_at "st")))
namespace K01
open PySem PySem.Spec PyProof.Rows L2
/-- one write of the queue behind a power loss: torn, kept or lost -/
def stA (qs : List (Nat × V)) (is js : List Int) (acc : List V) (k : Nat) : List V := match qs[k]? with
  | none => acc
  | some p => if decide ((k : Int) ∈ js) = true then acc.set p.1 .non else if decide ((k : Int) ∈ is) = true then acc.set p.1 p.2 else acc
def aftN (xs : List V) (qs : List (Nat × V)) (is js : List Int) (n : Nat) : List V := (List.range n).foldl (stA qs is js) xs
/-- the blocks behind a power loss -/
abbrev aft (xs : List V) (qs : List (Nat × V)) (is js : List Int) : List V := aftN xs qs is js qs.length
theorem aftN_succ (xs : List V) (qs : List (Nat × V)) (is js : List Int) (n : Nat) : aftN xs qs is js (n + 1) = stA qs is js (aftN xs qs is js n) n := by
  unfold aftN
  rw [List.range_succ, List.foldl_append]; rfl
theorem stA_len (qs : List (Nat × V)) (is js : List Int) (acc : List V) (k : Nat) : (stA qs is js acc k).length = acc.length := by
  unfold stA
  split
  · rfl
  · split
    · rw [List.length_set]
    · split
      · rw [List.length_set]
      · rfl
theorem aftN_len (xs : List V) (qs : List (Nat × V)) (is js : List Int) (n : Nat) : (aftN xs qs is js n).length = xs.length := by
  induction n with
  | zero => rfl
  | succ n ih => rw [aftN_succ, stA_len, ih]
def sp_held (K : PySem.W.Frag) : Sp := fun vs H Q _ => ∃ (a dx b s q : Addr) (bs ss : List V) (ts : List Addr), vs = [.ref a] ∧ DkB K H a dx b s q bs ss ts ∧ ss.length = bs.length ∧ bs.length ≤ 1000 ∧
  ∀ (p : Addr) (H' : Hp), H p = none → Same H H' → H' p = some (.lst ss) → Q (.ref p) H'
def sp_after (K : PySem.W.Frag) : Sp := fun vs H Q _ => ∃ (sf qu st rp : Addr) (xs : List V) (ts : List Addr) (qs : List (Nat × V)) (is js : List Int), vs = [.ref sf, .ref qu, .ref st, .ref rp] ∧ H sf = some (.lst xs) ∧ H qu = some (.lst (ts.map V.ref)) ∧ Qs H ts qs ∧
  SqL K H st (is.map V.int) ∧ SqL K H rp (js.map V.int) ∧ (∀ p ∈ qs, p.1 < xs.length) ∧ ts.length ≤ 1000 ∧ ∀ (p : Addr) (H' : Hp), H p = none → Same H H' → H' p = some (.lst (aft xs qs is js)) → Q (.ref p) H'
section
variable {P : Program} {w : World} {K : PySem.W.Frag} {mg : Str → Option Value} {base : Heap} {t1 t2 : Tok}
theorem ok_held (T : Tx K mg t1 t2) {fd : FuncData} (F : Fd K d_law_held fd) (P_size : Pr P w K mg base "Disk" "size" ["self"] 1 (sp_len K)) (S_getitem : My.Spc P w K mg base CX0 (CD K) "__getitem__" ["self", "block"] 4 (sp_get K)) :
    FnOk P w K mg base CX0 6 (He.fAd K d_law_held.at_) fd ["_law_disk"] (sp_held K) := by
  refine F.ok sc_law_held (fun vs H Q E h => ?_) (fun cdv A outer s H vs Q E hr h => ?_)
  · obtain ⟨a, dx, b, s, q, bs, ss, ts, rfl, _⟩ := h
    rfl
  · obtain ⟨a, dx, b, s', q, bs, ss, ts, rfl, hD, hl, hb, h⟩ := h
    have fa := hD.ha
    refine ⟨_, PSs.nox ((pss_one (ps_ret (pe_lc (own := [("_law_block", 1)]) (g := gName 1) (tt := tYes) rfl sc_law_held.nd (pi_range1 rfl T.n_range (pa_cons (pe_pr P_size (hr.mono (by decide)) (pv 0) (by rfl)) pa_nil)) (blkOk_by (own := [("_law_block", 1)]) (N := ["_law_disk", "_law_block"]) (sc := defScope s_law_held) (by decide +kernel)) (fun _ _ _ _ _ => pg_name (i := 1) sc_law_held.nd rfl (Or.inl rfl)) (fun _ _ _ _ _ => pts_nil) (fun _ _ _ _ _ => (My.pe_ixO S_getitem (hr.mono (by decide)) pass0 (pv 0) (pv 1))))))), ?_⟩
    refine My.x_start (σ := [some (V.ref a), none]) rfl ?_
    try dsimp only [cxOf, Cx.nox]
    walk_at "go"
    refine ⟨_, rfl, a, dx, _, rfl, fa, a, dx, b, s', q, bs, ss, ts, rfl, hD, ?_⟩
    walk_at "go"
    refine My.x_rng1E (by omega) (by omega) ?_
    rw [Int.toNat_natCast]
    intro L hL
    refine My.lc_runs (My.runs_rng 0 bs.length) (fun pre H' => Same H H' ∧ H' L = some (.lst (ss.take pre.length))) ⟨My.Same.new (Same.refl H) hL, upd_same⟩ (fun pre post H' _ h => trivial) ?_ ?_
    · rintro pre x post H3 v H4 hpre ⟨S, gL⟩ ⟨rfl, hx, hlt, rfl⟩
      obtain ⟨v, hv⟩ : ∃ v, ss[pre.length]? = some v := ⟨_, List.getElem?_eq_getElem (by omega)⟩
      have ex : (0 + (x : Int)) = ((pre.length : Nat) : Int) := by rw [hx]; omega
      rw [ex]
      simp only [List.map_cons, List.map_nil, wipe, List.set_cons_succ, List.set_cons_zero]
      walk_at "go"
      refine ⟨rfl, ?_⟩
      walk_at "go"
      have D4 := hD.same S
      refine My.x_ixO D4.ha ⟨a, dx, b, s', q, bs, ss, ts, pre.length, v, rfl, D4, hl, hv, ?_⟩
      refine ⟨_, gL, by rw [List.length_take, sizeLine_eq]; omega, My.Same.mut S hL, ?_⟩
      rw [upd_same, List.length_append, List.length_singleton, List.take_add_one, hv]
      rfl
    · rintro H3 ⟨S, gL⟩
      rw [List.length_range, ← hl, List.take_length] at gL
      exact h L H3 hL S gL
theorem ok_after (T : Tx K mg t1 t2) {fd : FuncData} (F : Fd K d_law_after fd) : FnOk P w K mg base CX0 1 (He.fAd K d_law_after.at_) fd ["_law_safe", "_law_queue", "_law_stay", "_law_rip"] (sp_after K) := by
  refine F.ok sc_law_after (fun vs H Q E h => ?_) (fun cdv A outer s H vs Q E hr h => ?_)
  · obtain ⟨sf, qu, st, rp, xs, ts, qs, is, js, rfl, _⟩ := h
    rfl
  · obtain ⟨sf, qu, st, rp, xs, ts, qs, is, js, rfl, hsf, hqu, hQ, hst, hrp, hlt, hz, h⟩ := h
    refine ⟨_, PSs.nox ((pss_cons (ps_set (i := 4) sc_law_after.nd rfl (Or.inl rfl) (pe_callTy call_list_of (by rfl) T.n_list (by decide +kernel) (pa_cons (pv 0) pa_nil)))
  (pss_cons (ps_for PassesOwn.never rfl (pi_range1 rfl T.n_range (pa_cons (pe_callB call_len_seq (by rfl) T.n_len (by decide +kernel) (pa_cons (pv 1) pa_nil)) pa_nil)) (pg_name (i := 5) sc_law_after.nd rfl (Or.inl rfl))
  (pss_one (ps_if (pt_cmpR op_in_seq (pv 5) (pv 3) (by rfl))
  (pss_one (ps_asg pe_non (pg_sub (pv 4) (pe_ix ix_tup (pe_ix ix_list (pv 1) (pv 5) (fun _ _ => rfl)) pe_int (fun _ _ => rfl)) set_list)))
  (pss_one (ps_if (pt_cmpR op_in_seq (pv 5) (pv 2) (by rfl))
  (pss_one (ps_asg (pe_ix ix_tup (pe_ix ix_list (pv 1) (pv 5) (fun _ _ => rfl)) pe_int (fun _ _ => rfl)) (pg_sub (pv 4) (pe_ix ix_tup (pe_ix ix_list (pv 1) (pv 5) (fun _ _ => rfl)) pe_int (fun _ _ => rfl)) set_list)))
  pss_nil)))))
  (pss_one (ps_ret (pv 4)))))), ?_⟩
    refine My.x_start (σ := [some (V.ref sf), some (V.ref qu), some (V.ref st), some (V.ref rp), none, none]) rfl ?_
    try dsimp only [cxOf, Cx.nox]
    walk_at "go"
    intro p hp
    have S1 := My.Same.new (o := .lst xs) (Same.refl H) hp
    have e1 : upd H p (.lst xs) p = some (.lst xs) := upd_same
    generalize upd H p (.lst xs) = H1 at S1 e1 ⊢
    have hqu1 := S1 _ _ hqu
    walk_at "go"
    rw [List.length_map]
    refine My.x_rng1E (by omega) (by omega) ?_
    rw [Int.toNat_natCast]
    refine My.for_runs (My.runs_rng 0 ts.length) (fun pre σ' H' => (∃ o, σ' = [some (V.ref sf), some (V.ref qu), some (V.ref st), some (V.ref rp), some (V.ref p), o]) ∧ Same H H' ∧ H' p = some (.lst (aftN xs qs is js pre.length))) ⟨⟨_, rfl⟩, S1, e1⟩ (fun pre post σ' H' _ z => trivial) ?_ ?_
    · rintro pre x post σ' H3 v H4 hpre ⟨⟨o, rfl⟩, S3, e3⟩ ⟨rfl, hx, hlt2, rfl⟩
      obtain ⟨t, hts⟩ : ∃ t, ts[pre.length]? = some t := ⟨_, List.getElem?_eq_getElem (by omega)⟩
      obtain ⟨pr, hpr, ht⟩ := hQ.at pre.length t hts
      have ex : (0 + (x : Int)) = ((pre.length : Nat) : Int) := by rw [hx]; omega
      rw [ex]
      have st3 := S3.seq hst
      have rp3 := S3.seq hrp
      have qu3 := S3 _ _ hqu
      have t3 := S3 _ _ ht
      have hlen : pr.1 < (aftN xs qs is js pre.length).length := by rw [aftN_len]; exact hlt pr (List.mem_of_getElem? hpr)
      have eS : aftN xs qs is js (pre ++ [x]).length = stA qs is js (aftN xs qs is js pre.length) pre.length := by rw [List.length_append, List.length_singleton, aftN_succ]
      have pq : atI (ts.map V.ref) ((pre.length : Nat) : Int) = some (.ref t) := atI_nat (by rw [List.getElem?_map, hts]; rfl)
      unfold stA at eS
      rw [hpr] at eS
      walk_at "go"
      refine My.x_inI rp3 ?_
      walk_at "go"
      by_cases hj : ((pre.length : Nat) : Int) ∈ js
      · rw [decide_eq_true hj]
        simp only [decide_eq_true hj, if_true] at eS
        walk_at "go"
        refine My.x_ixL (SqL.of qu3) pq ?_
        walk_at "go"
        refine ⟨p, _, _, pr.1, rfl, rfl, e3, ixN_at hlen, ⟨_, rfl⟩, My.Same.mut S3 hp, ?_⟩
        rw [upd_same, eS]
      · rw [decide_eq_false hj]
        simp only [decide_eq_false hj, Bool.false_eq_true, if_false] at eS
        walk_at "go"
        refine My.x_inI st3 ?_
        walk_at "go"
        by_cases hi : ((pre.length : Nat) : Int) ∈ is
        · rw [decide_eq_true hi]
          simp only [decide_eq_true hi, if_true] at eS
          walk_at "go"
          refine My.x_ixL (SqL.of qu3) pq ?_
          walk_at "go"
          refine My.x_ixL (SqL.of qu3) pq ?_
          walk_at "go"
          refine ⟨p, _, _, pr.1, rfl, rfl, e3, ixN_at hlen, ⟨_, rfl⟩, My.Same.mut S3 hp, ?_⟩
          rw [upd_same, eS]
        · rw [decide_eq_false hi]
          simp only [decide_eq_false hi, Bool.false_eq_true, if_false] at eS
          walk_at "go"
          refine ⟨⟨_, rfl⟩, S3, ?_⟩
          rw [eS]; exact e3
    · rintro σ' H3 ⟨⟨o, rfl⟩, S3, e3⟩
      rw [List.length_range, hQ.len] at e3
      walk_at "go"
      exact h p H3 hp S3 e3
end
end K01

end

section
local macro_rules | `(tactic| walk_at "ne") => `(tactic| first | assumption | (apply Ne.symm; assumption) | exact L2.ne_of_none (by assumption) (by assumption) | exact (L2.ne_of_none (by assumption) (by assumption)).symm)
local macro_rules | `(tactic| walk_at "hp") => `(tactic| first | assumption | exact L2.upd_same | (rw [L2.upd_ne (by walk_at "ne")]; walk_at "hp"))
local macro_rules | `(tactic| walk_at "sq") => `(tactic| first | assumption | exact L2.SqL.of (by walk_at "hp") | exact My.sq_new (by walk_at "sq") (by assumption))
local macro_rules | `(tactic| walk_at "sd") => `(tactic| first | decide | omega | (unfold L2.CDivN; omega) | (unfold L2.CMul; omega) | (unfold L2.CPow; omega))
local macro_rules | `(tactic| walk_at "sx1") => `(tactic| first | with_reducible refine My.x_seq ?_ | with_reducible refine My.x_asg ?_ | with_reducible refine My.x_ret ?_ | with_reducible refine My.x_next ?_ | with_reducible refine My.x_op ?_ | with_reducible refine My.x_c ?_ | with_reducible refine My.x_ifs ?_ | with_reducible refine My.x_test ?_ | with_reducible refine My.x_exbl ?_ | with_reducible refine My.x_cons ?_ | with_reducible refine My.x_nil ?_ | with_reducible refine My.x_cb ?_ | with_reducible refine My.x_drop ?_ | with_reducible refine My.x_par ?_ | with_reducible refine My.x_exp2 ?_ | with_reducible refine My.x_aug ?_ | with_reducible refine My.x_if ?_ | with_reducible refine My.x_tB ?_ | with_reducible refine My.x_and ?_ | with_reducible refine My.x_or ?_ | with_reducible refine My.x_not ?_ | with_reducible refine My.x_retn ?_ | with_reducible refine My.x_cont ?_ | with_reducible refine My.x_brk ?_ | with_reducible refine My.x_un ?_ | with_reducible refine My.x_tfor ?_ | with_reducible refine My.x_ilist ?_ | with_reducible refine My.x_rng1 ?_ | with_reducible refine My.x_rng2 ?_ | with_reducible refine My.x_r1 ?_ | with_reducible refine My.x_call ?_ | with_reducible refine My.x_sl ?_ | with_reducible refine My.x_part ?_ | with_reducible refine My.x_nopart ?_ | with_reducible refine My.x_ii0 ?_ | with_reducible refine My.x_yes ?_ | with_reducible refine My.x_andv ?_ | with_reducible refine My.x_orv ?_ | with_reducible refine My.x_notv ?_ | with_reducible refine My.x_iT ?_ | with_reducible refine My.x_iF ?_ | with_reducible refine My.x_chain ?_ | with_reducible refine My.x_exI ?_ | with_reducible refine My.x_wipe ?_ | with_reducible refine My.x_bm ?_ | with_reducible refine My.x_bm0 ?_ | with_reducible refine My.x_gsub ?_ | with_reducible refine My.x_int1 ?_ | with_reducible refine My.x_two ?_ | with_reducible refine My.x_lst ?_ | with_reducible refine My.x_tup ?_ | with_reducible refine My.x_revL ?_ | with_reducible refine My.x_dput ?_ | with_reducible refine My.x_dget ?_ | with_reducible refine My.x_dnew ?_ | with_reducible refine My.x_dc ?_ | with_reducible refine My.x_lc ?_ | with_reducible refine My.x_ienum ?_ | with_reducible refine My.x_gcons ?_ | with_reducible refine My.x_gnil ?_ | with_reducible refine My.x_v0 ?_ | with_reducible refine My.x_v1 ?_ | with_reducible refine My.x_v2 ?_ | with_reducible refine My.x_v3 ?_ | with_reducible refine My.x_v4 ?_ | with_reducible refine My.x_v5 ?_ | with_reducible refine My.x_v6 ?_ | with_reducible refine My.x_v7 ?_ | with_reducible refine My.x_v8 ?_ | with_reducible refine My.x_v9 ?_ | with_reducible refine My.x_v10 ?_ | with_reducible refine My.x_v11 ?_ | with_reducible refine My.x_v12 ?_ | with_reducible refine My.x_v13 ?_ | with_reducible refine My.x_v14 ?_ | with_reducible refine My.x_v15 ?_ | with_reducible refine My.x_v16 ?_ | with_reducible refine My.x_v17 ?_ | with_reducible refine My.x_v18 ?_ | with_reducible refine My.x_v19 ?_ | with_reducible refine My.x_v20 ?_ | with_reducible refine My.x_v21 ?_ | with_reducible refine My.x_v22 ?_ | with_reducible refine My.x_v23 ?_ | with_reducible refine My.x_v24 ?_ | with_reducible refine My.x_v25 ?_ | with_reducible refine My.x_g0 ?_ | with_reducible refine My.x_g1 ?_ | with_reducible refine My.x_g2 ?_ | with_reducible refine My.x_g3 ?_ | with_reducible refine My.x_g4 ?_ | with_reducible refine My.x_g5 ?_ | with_reducible refine My.x_g6 ?_ | with_reducible refine My.x_g7 ?_ | with_reducible refine My.x_g8 ?_ | with_reducible refine My.x_g9 ?_ | with_reducible refine My.x_g10 ?_ | with_reducible refine My.x_g11 ?_ | with_reducible refine My.x_g12 ?_ | with_reducible refine My.x_g13 ?_ | with_reducible refine My.x_g14 ?_ | with_reducible refine My.x_g15 ?_ | with_reducible refine My.x_g16 ?_ | with_reducible refine My.x_g17 ?_ | with_reducible refine My.x_g18 ?_ | with_reducible refine My.x_g19 ?_ | with_reducible refine My.x_g20 ?_ | with_reducible refine My.x_g21 ?_ | with_reducible refine My.x_g22 ?_ | with_reducible refine My.x_g23 ?_ | with_reducible refine My.x_g24 ?_ | with_reducible refine My.x_g25 ?_)
local macro_rules | `(tactic| walk_at "sx") => `(tactic| repeat (walk_at "sx1"))
local macro_rules | `(tactic| walk_at "ln") => `(tactic| first | assumption | exact Nat.le_of_ble_eq_true rfl | (simp only [List.length_append, List.length_map, List.length_cons, List.length_nil]; simp only [PySem.sizeLine]; omega))
local macro_rules | `(tactic| walk_at "st") => `(tactic| first | assumption | exact L2.SqT.of (by walk_at "hp"))
local macro_rules | `(tactic| walk_at "go1") => `(tactic| first | walk_at "sx1" | ((with_reducible refine' My.x_ixL ?x0 ?x1 ?x2); (case x0 => walk_at "sq"); (case x1 => exact rfl)) | ((with_reducible refine' My.x_ixT ?x0 ?x1 ?x2); (case x0 => walk_at "st"); (case x1 => exact rfl)) | ((with_reducible refine' My.x_i ?x0 ?x1); (case x0 => walk_at "sd")) | ((with_reducible refine' My.x_setL ?x0 ?x1 ?x2); (case x0 => walk_at "hp"); (case x1 => exact rfl)) | ((with_reducible refine' My.x_len ?x0 ?x1); (case x0 => walk_at "sq")) | ((with_reducible refine' My.x_lenT ?x0 ?x1); (case x0 => walk_at "st")) | ((with_reducible refine' My.x_lenD ?x0 ?x1); (case x0 => walk_at "hp")) | ((with_reducible refine' My.x_append ?x0 ?x1 ?x2); (case x0 => walk_at "hp"); (case x1 => walk_at "ln")) | ((with_reducible refine' My.x_tyL ?x0 ?x1); (case x0 => walk_at "hp")) | ((with_reducible refine' My.x_ilistE ?x0 ?x1); (case x0 => walk_at "sq")) | ((with_reducible refine' My.x_ienumE ?x0 ?x1); (case x0 => walk_at "sq")) | ((with_reducible refine' My.x_sortI ?x0 ?x1); (case x0 => walk_at "sq")) | ((with_reducible refine' My.x_slL ?x0 ?x1); (case x0 => walk_at "sq")) | ((with_reducible refine' My.x_revL2 ?x0 ?x1); (case x0 => walk_at "sq")) | ((with_reducible refine' My.x_eq ?x0 ?x1); (case x0 => exact rfl)) | ((with_reducible refine' My.x_ne ?x0 ?x1); (case x0 => exact rfl)) | ((with_reducible refine' My.x_dputI ?x0 ?x1 ?x2); (case x0 => walk_at "hp"); (case x1 => walk_at "ln")) | ((with_reducible refine' My.x_dputS ?x0 ?x1 ?x2); (case x0 => walk_at "hp"); (case x1 => walk_at "ln")) | ((with_reducible refine' My.x_seqof ?x0 ?x1); (case x0 => walk_at "sq")) | ((with_reducible refine' My.x_gtup ?x0 ?x1 ?x2); (case x0 => walk_at "st"); (case x1 => exact rfl)) | ((with_reducible refine' My.x_mem1 ?x0 ?x1); (case x0 => walk_at "ln")))
local macro_rules | `(tactic| walk_at "go") => `(tactic| repeat (walk_at "go1"))
local macro_rules | `(tactic| walk_at "sx1") => `(tactic| first | with_reducible refine My.x_gx ?_ | with_reducible refine My.x_gxK ?_ | with_reducible refine My.x_gi ?_ | with_reducible refine My.x_gst ?_ | with_reducible refine My.x_xg ?_ | with_reducible refine My.x_nF ?_ | with_reducible refine My.x_nT ?_ | with_reducible refine My.x_fld ?_ | with_reducible refine My.x_sfld ?_ | with_reducible refine My.x_meth ?_ | with_reducible refine My.x_make ?_ | with_reducible refine My.x_din ?_ | with_reducible refine My.x_dnin ?_ | with_reducible refine My.x_ikeys ?_ | with_reducible refine My.x_itup ?_ | with_reducible refine My.x_mkO ?_ | with_reducible refine My.x_vei ?_ | with_reducible refine My.x_ost ?_ | with_reducible refine My.x_nF ?_ | with_reducible refine My.x_nT ?_)
local macro_rules | `(tactic| walk_at "go1") => `(tactic| first | ((with_reducible refine' My.x_fldE ?x0 ?x1 ?x2 ?x3 ?x4); (case x0 => walk_at "hp"); (case x1 => assumption); (case x2 => assumption); (case x3 => exact rfl)) | ((with_reducible refine' My.x_sfldE ?x0 ?x1 ?x2 ?x3 ?x4 ?x5); (case x0 => walk_at "hp"); (case x1 => assumption); (case x2 => assumption); (case x3 => decide); (case x4 => exact rfl)) | ((with_reducible refine' My.x_methE ?x0 ?x1 ?x2); (case x0 => walk_at "hp"); (case x1 => exact rfl)) | ((with_reducible refine' My.x_itupE ?x0 ?x1); (case x0 => walk_at "st")))
namespace K01
open PySem PySem.Spec PyProof.Rows L2
theorem Ints.same {K : PySem.W.Frag} {H H' : Hp} {x : V} {is : List Int} (h : Ints K H x is) (S : Same H H') : Ints K H' x is := by
  obtain ⟨a, e, h⟩ := h
  exact ⟨a, e, h.imp (fun h => S.seq h) fun h => seqT S h⟩
theorem x_inInts {K : PySem.W.Frag} {H : Hp} {Q : VK} {x : V} {i : Int} {ks : List Int} (s : Ints K H x ks) (h : Q (.bl (decide (i ∈ ks))) H) : rIn K false (.int i) x H Q := by
  obtain ⟨p, e, s⟩ := s
  exact ⟨p, _, e, s, rfl, My.flat_ints ks, by rw [My.inV_int]; exact h⟩
/-- the numbers of the writes -/
abbrev Spots (n : Nat) (is : List Int) : Prop := is.length ≤ 1000 ∧ ∀ i ∈ is, 0 ≤ i ∧ i ≤ (n : Int) - 1
def sp_crashed (K : PySem.W.Frag) : Sp := fun vs H Q _ => ∃ (a dx b s q : Addr) (bs ss : List V) (ts : List Addr) (qs : List (Nat × V)) (kx tx : V) (is js : List Int), vs = [.ref a, kx, tx] ∧ DkB K H a dx b s q bs ss ts ∧ Qs H ts qs ∧
  1 ≤ bs.length ∧ bs.length ≤ 1000 ∧ ts.length ≤ 1000 ∧ (∀ p ∈ qs, p.1 < bs.length) ∧ Ints K H kx is ∧ Ints K H tx js ∧ Spots ts.length is ∧ Spots ts.length js ∧
  ∀ (a' dx' b' s' q' : Addr) (H' : Hp), H a' = none → H b' = none → H s' = none → H q' = none → Same H H' → DkB K H' a' dx' b' s' q' (aft bs qs is js) (aft bs qs is js) [] → Q (.ref a') H'
def sp_copy (K : PySem.W.Frag) : Sp := fun vs H Q _ => ∃ (a dx b s q : Addr) (bs ss : List V) (ts : List Addr) (qs : List (Nat × V)), vs = [.ref a] ∧ DkB K H a dx b s q bs ss ts ∧ Qs H ts qs ∧ 1 ≤ bs.length ∧ bs.length ≤ 1000 ∧ ts.length ≤ 1000 ∧ (∀ p ∈ qs, p.1 < bs.length) ∧
  ∀ (a' dx' b' s' q' : Addr) (H' : Hp), H a' = none → H b' = none → H s' = none → H q' = none → Same H H' → DkB K H' a' dx' b' s' q' (aft bs qs [] []) ss ts → Q (.ref a') H'
section
variable {P : Program} {w : World} {K : PySem.W.Frag} {mg : Str → Option Value} {base : Heap} {t1 t2 : Tok}
theorem ok_crashed (T : Tx K mg t1 t2) {fd : FuncData} (F : Fd K d_Disk_crashed fd) (C_has_only : My.Cl P w K mg base "has_only" ["values", "most"] 2 (sp_only K)) (P_size : Pr P w K mg base "Disk" "size" ["self"] 1 (sp_len K))
    (M_D : My.Mx P w K mg base CX0 "Disk" ["self", "size"] 3 (sp_init K) []) : FnOk P w K mg base CX0 6 (He.fAd K d_Disk_crashed.at_) fd ["self", "kept", "torn"] (sp_crashed K) := by
  refine F.ok sc_Disk_crashed (fun vs H Q E h => ?_) (fun cdv A outer s H vs Q E hr h => ?_)
  · obtain ⟨a, dx, b, s, q, bs, ss, ts, qs, kx, tx, is, js, rfl, _⟩ := h
    rfl
  · obtain ⟨a, dx, b, s', q, bs, ss, ts, qs, kx, tx, is, js, rfl, hD, hQ, hb0, hb1, hz, hlt, hk, ht, hi, hj, h⟩ := h
    have fa := hD.ha
    have fc := T.cls
    have fb := T.nb
    have fs := T.ns
    have fq := T.nq
    refine ⟨_, PSs.nox ((pss_cons (ps_for PassesOwn.never rfl (pi_tup (pe_tup (pa_cons (pv 1) (pa_cons (pv 2) pa_nil)))) (pg_name (i := 3) sc_Disk_crashed.nd rfl (Or.inl rfl))
  (pss_one (ps_if (pt_not (pt_val (My.pe_cl C_has_only (hr.mono (by decide)) rfl (pa_cons (pv 3) (pa_cons (pe_callB call_len_seq (by rfl) T.n_len (by decide +kernel) (pa_cons (My.pe_fldK (K := K) (by rfl) (pv 0) (by rfl)) pa_nil)) pa_nil)))))
  (pss_one ps_never)
  pss_nil)))
  (pss_cons (ps_set (i := 4) sc_Disk_crashed.nd rfl (Or.inl rfl) (My.pe_mx M_D (hr.mono (by decide)) rfl pass0 (pa_cons (pe_pr P_size (hr.mono (by decide)) (pv 0) (by rfl)) pa_nil)))
  (pss_cons (ps_fld (pv 4) (pe_callTy call_list_of (by rfl) T.n_list (by decide +kernel) (pa_cons (My.pe_fldK (K := K) (by rfl) (pv 0) (by rfl)) pa_nil)) rfl)
  (pss_cons (ps_for PassesOwn.never rfl (pi_enum (by rfl) T.n_enumerate (pa_cons (My.pe_fldK (K := K) (by rfl) (pv 0) (by rfl)) pa_nil)) (pg_tup (n := 2) (by rfl) (pgs_cons (pg_name (i := 5) sc_Disk_crashed.nd rfl (Or.inl rfl)) (pgs_cons (pg_tup (n := 2) (by rfl) (pgs_cons (pg_name (i := 6) sc_Disk_crashed.nd rfl (Or.inl rfl)) (pgs_cons (pg_name (i := 7) sc_Disk_crashed.nd rfl (Or.inl rfl)) pgs_nil))) pgs_nil)))
  (pss_one (ps_if (pt_cmpR op_in_seq (pv 5) (pv 2) (by rfl))
  (pss_one (ps_asg pe_non (pg_sub (My.pe_fldK (K := K) (by rfl) (pv 4) (by rfl)) (pv 6) set_list)))
  (pss_one (ps_if (pt_cmpR op_in_seq (pv 5) (pv 1) (by rfl))
  (pss_one (ps_asg (pv 7) (pg_sub (My.pe_fldK (K := K) (by rfl) (pv 4) (by rfl)) (pv 6) set_list)))
  pss_nil)))))
  (pss_cons (ps_fld (pv 4) (pe_callTy call_list_of (by rfl) T.n_list (by decide +kernel) (pa_cons (My.pe_fldK (K := K) (by rfl) (pv 4) (by rfl)) pa_nil)) rfl)
  (pss_one (ps_ret (pv 4))))))))), ?_⟩
    refine My.x_start (σ := [some (V.ref a), some kx, some tx, none, none, none, none, none]) rfl ?_
    try dsimp only [cxOf, Cx.nox]
    walk_at "go"
    intro tp htp
    have S1 := My.Same.new (o := .tup [kx, tx]) (Same.refl H) htp
    have e1 : upd H tp (.tup [kx, tx]) tp = some (.tup [kx, tx]) := upd_same
    generalize upd H tp (.tup [kx, tx]) = H1 at S1 e1 ⊢
    walk_at "go"
    refine My.for_runs (My.runs_tup (K := K) (a := tp) (id : V → V) [kx, tx]) (fun pre σ' H' => (∃ o, σ' = [some (V.ref a), some kx, some tx, o, none, none, none, none]) ∧ Same H H' ∧ H' tp = some (.tup [kx, tx])) ⟨⟨_, rfl⟩, S1, e1⟩ (fun pre post σ' H' _ z => SqT.of z.2.2) ?_ ?_
    · rintro pre x post σ' H3 v H4 hpre ⟨⟨o, rfl⟩, S3, e3⟩ ⟨rfl, rfl⟩
      obtain ⟨ga, gb, gs, gq, _, _, _⟩ := hD.same S3
      obtain ⟨zs, z1, z2⟩ : ∃ zs, Ints K H4 v zs ∧ Spots ts.length zs := by
        have hx : v ∈ [kx, tx] := by rw [hpre]; simp
        rcases List.mem_cons.mp hx with rfl | hx
        · exact ⟨is, hk.same S3, hi⟩
        · rw [List.mem_singleton.mp hx]; exact ⟨js, ht.same S3, hj⟩
      walk_at "go"
      rw [List.length_map]
      refine ⟨v, zs, (ts.length : Int), rfl, z1, z2.1, z2.2, fun H5 S5 => ?_⟩
      walk_at "go"
      exact ⟨⟨_, rfl⟩, S3.trans S5, S5 _ _ e3⟩
    · rintro σ' H3 ⟨⟨o, rfl⟩, S3, e3⟩
      clear e1 S1
      have D3 := hD.same S3
      obtain ⟨ga, gb, gs, gq, _, _, _⟩ := id D3
      walk_at "go"
      refine ⟨_, rfl, a, dx, _, rfl, ga, a, dx, b, s', q, bs, ss, ts, rfl, D3, ?_⟩
      walk_at "go"
      intro a' dx' ha' hdx' hne
      refine ⟨a', dx', (bs.length : Int), rfl, upd_same, by omega, by omega, fun b' s2 q' H5 k5 nb ns nq D5 => ⟨rfl, ?_⟩⟩
      have S5 : Same H H5 := fun c o e => by
        have e := S3 _ _ e
        have h1 := ne_of_none e ha'
        have h2 := ne_of_none e hdx'
        exact k5 c o h1 (by rw [upd_ne h1, upd_ne h2]; exact e)
      have na : H a' = none := S3.free ha'
      have nn : ∀ c, upd (upd H3 dx' (.own a')) a' (.ins (He.ga K "Disk") dx' []) c = none → H c = none := fun c e => by
        by_cases h1 : c = a'
        · rw [h1]; exact na
        · by_cases h2 : c = dx'
          · rw [h2]; exact S3.free hdx'
          · rw [upd_ne h1, upd_ne h2] at e; exact S3.free e
      have ns' := nn _ ns
      have nq' := nn _ nq
      clear k5 nb ns nq nn ha' hdx' e3
      obtain ⟨ga, gb, gs, gq, _, _, _⟩ := hD.same S5
      obtain ⟨ha5, hb5, hs5, hq5, n51, n52, n53⟩ := D5
      walk_at "go"
      intro L hL
      have nL : H L = none := S5.free hL
      have S6 := My.Same.new (o := .lst bs) S5 hL
      have e6 : upd H5 L (.lst bs) L = some (.lst bs) := upd_same
      have a6 : upd H5 L (.lst bs) a' = some (.ins (CD K) dx' (flds b' s2 q')) := by rw [upd_ne (ne_of_none ha5 hL)]; exact ha5
      have q6 : upd H5 L (.lst bs) q' = some (.lst (([] : List Addr).map V.ref)) := by rw [upd_ne (ne_of_none hq5 hL)]; exact hq5
      have nqL : q' ≠ L := ne_of_none hq5 hL
      have naL : a' ≠ L := ne_of_none ha5 hL
      have naq : a' ≠ q' := fun e => by rw [e, hq5] at ha5; cases ha5
      clear hb5 hs5
      generalize upd H5 L (.lst bs) = H6 at S6 e6 a6 q6 ⊢
      clear S5 hL ga gb gs gq ha5 hq5
      walk_at "go"
      refine My.x_sfldE a6 fc fb (by show 4 < 1000; decide) (gs := flds L s2 q') rfl ?_
      have S7 : Same H (upd H6 a' (.ins (CD K) dx' (flds L s2 q'))) := My.Same.mut S6 na
      have a7 : upd H6 a' (.ins (CD K) dx' (flds L s2 q')) a' = some (.ins (CD K) dx' (flds L s2 q')) := upd_same
      have e7 : upd H6 a' (.ins (CD K) dx' (flds L s2 q')) L = some (.lst bs) := by rw [upd_ne naL.symm]; exact e6
      have q7 : upd H6 a' (.ins (CD K) dx' (flds L s2 q')) q' = some (.lst (([] : List Addr).map V.ref)) := by rw [upd_ne naq.symm]; exact q6
      generalize upd H6 a' (.ins (CD K) dx' (flds L s2 q')) = H7 at S7 a7 e7 q7 ⊢
      clear S6 e6 a6 q6
      obtain ⟨ga, gb, gs, gq, _, _, _⟩ := hD.same S7
      walk_at "go"
      refine My.for_runs (My.runs_enum (K := K) (a := q) V.ref ts) (fun pre σ' H' => (∃ o1 o2 o3 o4, σ' = [some (V.ref a), some kx, some tx, o1, some (V.ref a'), o2, o3, o4]) ∧ Same H H' ∧ H' a' = some (.ins (CD K) dx' (flds L s2 q')) ∧ H' q' = some (.lst (([] : List Addr).map V.ref)) ∧ H' L = some (.lst (aftN bs qs is js pre.length))) ⟨⟨_, _, _, _, rfl⟩, S7, a7, q7, e7⟩ (fun pre post σ' H' _ z => SqL.of (z.2.1 _ _ hD.hq)) ?_ ?_
      · rintro pre t post σ' H8 v H9 hpre ⟨⟨o1, o2, o3, o4, rfl⟩, S8, a8, q8, e8⟩ ⟨T', rfl, hT, rfl⟩
        obtain ⟨p, hp, htp⟩ := hQ.at pre.length t (by rw [hpre]; simp)
        have hlen : p.1 < (aftN bs qs is js pre.length).length := by rw [aftN_len]; exact hlt p (List.mem_of_getElem? hp)
        have eS : aftN bs qs is js (pre ++ [t]).length = stA qs is js (aftN bs qs is js pre.length) pre.length := by rw [List.length_append, List.length_singleton, aftN_succ]
        unfold stA at eS
        rw [hp] at eS
        have S9 := My.Same.new (o := .tup [.int (pre.length : Nat), .ref t]) S8 hT
        have T9 : upd H8 T' (.tup [.int (pre.length : Nat), .ref t]) T' = some (.tup [.int (pre.length : Nat), .ref t]) := upd_same
        have a9 : upd H8 T' (.tup [.int (pre.length : Nat), .ref t]) a' = some (.ins (CD K) dx' (flds L s2 q')) := by rw [upd_ne (ne_of_none a8 hT)]; exact a8
        have q9 : upd H8 T' (.tup [.int (pre.length : Nat), .ref t]) q' = some (.lst (([] : List Addr).map V.ref)) := by rw [upd_ne (ne_of_none q8 hT)]; exact q8
        have e9 : upd H8 T' (.tup [.int (pre.length : Nat), .ref t]) L = some (.lst (aftN bs qs is js pre.length)) := by rw [upd_ne (ne_of_none e8 hT)]; exact e8
        generalize upd H8 T' (.tup [.int (pre.length : Nat), .ref t]) = H9 at S9 T9 a9 q9 e9 ⊢
        clear S8 a8 q8 e8 hT
        have t9 := S9 _ _ htp
        have k9 := hk.same S9
        have j9 := ht.same S9
        walk_at "go"
        refine x_inInts j9 ?_
        walk_at "go"
        have fin : ∀ (v : V) σ', (∃ o1 o2 o3 o4, σ' = [some (V.ref a), some kx, some tx, o1, some (V.ref a'), o2, o3, o4]) → aftN bs qs is js (pre ++ [t]).length = (aftN bs qs is js pre.length).set p.1 v →
            (∃ o1 o2 o3 o4, σ' = [some (V.ref a), some kx, some tx, o1, some (V.ref a'), o2, o3, o4]) ∧ Same H (upd H9 L (.lst ((aftN bs qs is js pre.length).set p.1 v))) ∧ upd H9 L (.lst ((aftN bs qs is js pre.length).set p.1 v)) a' = some (.ins (CD K) dx' (flds L s2 q')) ∧
              upd H9 L (.lst ((aftN bs qs is js pre.length).set p.1 v)) q' = some (.lst (([] : List Addr).map V.ref)) ∧ upd H9 L (.lst ((aftN bs qs is js pre.length).set p.1 v)) L = some (.lst (aftN bs qs is js (pre ++ [t]).length)) := fun v σ' e1 e2 =>
          ⟨e1, My.Same.mut S9 nL, by rw [upd_ne naL]; exact a9, by rw [upd_ne nqL]; exact q9, by rw [upd_same, e2]⟩
        by_cases hj2 : ((pre.length : Nat) : Int) ∈ js
        · rw [decide_eq_true hj2]
          simp only [decide_eq_true hj2, if_true] at eS
          walk_at "go"
          refine ⟨L, _, _, p.1, rfl, rfl, e9, ixN_at hlen, ?_⟩
          exact fin _ _ ⟨_, _, _, _, rfl⟩ eS
        · rw [decide_eq_false hj2]
          simp only [decide_eq_false hj2, Bool.false_eq_true, if_false] at eS
          walk_at "go"
          refine x_inInts k9 ?_
          walk_at "go"
          by_cases hi2 : ((pre.length : Nat) : Int) ∈ is
          · rw [decide_eq_true hi2]
            simp only [decide_eq_true hi2, if_true] at eS
            walk_at "go"
            refine ⟨L, _, _, p.1, rfl, rfl, e9, ixN_at hlen, ?_⟩
            exact fin _ _ ⟨_, _, _, _, rfl⟩ eS
          · rw [decide_eq_false hi2]
            simp only [decide_eq_false hi2, Bool.false_eq_true, if_false] at eS
            walk_at "go"
            exact ⟨⟨_, _, _, _, rfl⟩, S9, a9, q9, by rw [eS]; exact e9⟩
      · rintro σ' H8 ⟨⟨o1, o2, o3, o4, rfl⟩, S8, a8, q8, e8⟩
        rw [hQ.len] at e8
        walk_at "go"
        intro M hM
        have nM : H M = none := S8.free hM
        have aM : a' ≠ M := ne_of_none a8 hM
        have qM : q' ≠ M := ne_of_none q8 hM
        have LM : L ≠ M := ne_of_none e8 hM
        have S9 := My.Same.new (o := .lst (aft bs qs is js)) S8 hM
        have a9 : upd H8 M (.lst (aft bs qs is js)) a' = some (.ins (CD K) dx' (flds L s2 q')) := by rw [upd_ne aM]; exact a8
        walk_at "go"
        refine My.x_sfldE a9 fc fs (by show 4 < 1000; decide) (gs := flds L M q') rfl ?_
        walk_at "go"
        refine h a' dx' L M q' _ na nL nM nq' (My.Same.mut S9 na) ⟨upd_same, ?_, ?_, ?_, LM, nqL.symm, qM.symm⟩
        · rw [upd_ne naL.symm, upd_ne LM]; exact e8
        · rw [upd_ne aM.symm, upd_same]
        · rw [upd_ne naq.symm, upd_ne qM]; exact q8
end
end K01

end

section
local macro_rules | `(tactic| walk_at "ne") => `(tactic| first | assumption | (apply Ne.symm; assumption) | exact L2.ne_of_none (by assumption) (by assumption) | exact (L2.ne_of_none (by assumption) (by assumption)).symm)
local macro_rules | `(tactic| walk_at "hp") => `(tactic| first | assumption | exact L2.upd_same | (rw [L2.upd_ne (by walk_at "ne")]; walk_at "hp"))
local macro_rules | `(tactic| walk_at "sq") => `(tactic| first | assumption | exact L2.SqL.of (by walk_at "hp") | exact My.sq_new (by walk_at "sq") (by assumption))
local macro_rules | `(tactic| walk_at "sd") => `(tactic| first | decide | omega | (unfold L2.CDivN; omega) | (unfold L2.CMul; omega) | (unfold L2.CPow; omega))
local macro_rules | `(tactic| walk_at "sx1") => `(tactic| first | with_reducible refine My.x_seq ?_ | with_reducible refine My.x_asg ?_ | with_reducible refine My.x_ret ?_ | with_reducible refine My.x_next ?_ | with_reducible refine My.x_op ?_ | with_reducible refine My.x_c ?_ | with_reducible refine My.x_ifs ?_ | with_reducible refine My.x_test ?_ | with_reducible refine My.x_exbl ?_ | with_reducible refine My.x_cons ?_ | with_reducible refine My.x_nil ?_ | with_reducible refine My.x_cb ?_ | with_reducible refine My.x_drop ?_ | with_reducible refine My.x_par ?_ | with_reducible refine My.x_exp2 ?_ | with_reducible refine My.x_aug ?_ | with_reducible refine My.x_if ?_ | with_reducible refine My.x_tB ?_ | with_reducible refine My.x_and ?_ | with_reducible refine My.x_or ?_ | with_reducible refine My.x_not ?_ | with_reducible refine My.x_retn ?_ | with_reducible refine My.x_cont ?_ | with_reducible refine My.x_brk ?_ | with_reducible refine My.x_un ?_ | with_reducible refine My.x_tfor ?_ | with_reducible refine My.x_ilist ?_ | with_reducible refine My.x_rng1 ?_ | with_reducible refine My.x_rng2 ?_ | with_reducible refine My.x_r1 ?_ | with_reducible refine My.x_call ?_ | with_reducible refine My.x_sl ?_ | with_reducible refine My.x_part ?_ | with_reducible refine My.x_nopart ?_ | with_reducible refine My.x_ii0 ?_ | with_reducible refine My.x_yes ?_ | with_reducible refine My.x_andv ?_ | with_reducible refine My.x_orv ?_ | with_reducible refine My.x_notv ?_ | with_reducible refine My.x_iT ?_ | with_reducible refine My.x_iF ?_ | with_reducible refine My.x_chain ?_ | with_reducible refine My.x_exI ?_ | with_reducible refine My.x_wipe ?_ | with_reducible refine My.x_bm ?_ | with_reducible refine My.x_bm0 ?_ | with_reducible refine My.x_gsub ?_ | with_reducible refine My.x_int1 ?_ | with_reducible refine My.x_two ?_ | with_reducible refine My.x_lst ?_ | with_reducible refine My.x_tup ?_ | with_reducible refine My.x_revL ?_ | with_reducible refine My.x_dput ?_ | with_reducible refine My.x_dget ?_ | with_reducible refine My.x_dnew ?_ | with_reducible refine My.x_dc ?_ | with_reducible refine My.x_lc ?_ | with_reducible refine My.x_ienum ?_ | with_reducible refine My.x_gcons ?_ | with_reducible refine My.x_gnil ?_ | with_reducible refine My.x_v0 ?_ | with_reducible refine My.x_v1 ?_ | with_reducible refine My.x_v2 ?_ | with_reducible refine My.x_v3 ?_ | with_reducible refine My.x_v4 ?_ | with_reducible refine My.x_v5 ?_ | with_reducible refine My.x_v6 ?_ | with_reducible refine My.x_v7 ?_ | with_reducible refine My.x_v8 ?_ | with_reducible refine My.x_v9 ?_ | with_reducible refine My.x_v10 ?_ | with_reducible refine My.x_v11 ?_ | with_reducible refine My.x_v12 ?_ | with_reducible refine My.x_v13 ?_ | with_reducible refine My.x_v14 ?_ | with_reducible refine My.x_v15 ?_ | with_reducible refine My.x_v16 ?_ | with_reducible refine My.x_v17 ?_ | with_reducible refine My.x_v18 ?_ | with_reducible refine My.x_v19 ?_ | with_reducible refine My.x_v20 ?_ | with_reducible refine My.x_v21 ?_ | with_reducible refine My.x_v22 ?_ | with_reducible refine My.x_v23 ?_ | with_reducible refine My.x_v24 ?_ | with_reducible refine My.x_v25 ?_ | with_reducible refine My.x_g0 ?_ | with_reducible refine My.x_g1 ?_ | with_reducible refine My.x_g2 ?_ | with_reducible refine My.x_g3 ?_ | with_reducible refine My.x_g4 ?_ | with_reducible refine My.x_g5 ?_ | with_reducible refine My.x_g6 ?_ | with_reducible refine My.x_g7 ?_ | with_reducible refine My.x_g8 ?_ | with_reducible refine My.x_g9 ?_ | with_reducible refine My.x_g10 ?_ | with_reducible refine My.x_g11 ?_ | with_reducible refine My.x_g12 ?_ | with_reducible refine My.x_g13 ?_ | with_reducible refine My.x_g14 ?_ | with_reducible refine My.x_g15 ?_ | with_reducible refine My.x_g16 ?_ | with_reducible refine My.x_g17 ?_ | with_reducible refine My.x_g18 ?_ | with_reducible refine My.x_g19 ?_ | with_reducible refine My.x_g20 ?_ | with_reducible refine My.x_g21 ?_ | with_reducible refine My.x_g22 ?_ | with_reducible refine My.x_g23 ?_ | with_reducible refine My.x_g24 ?_ | with_reducible refine My.x_g25 ?_)
local macro_rules | `(tactic| walk_at "sx") => `(tactic| repeat (walk_at "sx1"))
local macro_rules | `(tactic| walk_at "ln") => `(tactic| first | assumption | exact Nat.le_of_ble_eq_true rfl | (simp only [List.length_append, List.length_map, List.length_cons, List.length_nil]; simp only [PySem.sizeLine]; omega))
local macro_rules | `(tactic| walk_at "st") => `(tactic| first | assumption | exact L2.SqT.of (by walk_at "hp"))
local macro_rules | `(tactic| walk_at "go1") => `(tactic| first | walk_at "sx1" | ((with_reducible refine' My.x_ixL ?x0 ?x1 ?x2); (case x0 => walk_at "sq"); (case x1 => exact rfl)) | ((with_reducible refine' My.x_ixT ?x0 ?x1 ?x2); (case x0 => walk_at "st"); (case x1 => exact rfl)) | ((with_reducible refine' My.x_i ?x0 ?x1); (case x0 => walk_at "sd")) | ((with_reducible refine' My.x_setL ?x0 ?x1 ?x2); (case x0 => walk_at "hp"); (case x1 => exact rfl)) | ((with_reducible refine' My.x_len ?x0 ?x1); (case x0 => walk_at "sq")) | ((with_reducible refine' My.x_lenT ?x0 ?x1); (case x0 => walk_at "st")) | ((with_reducible refine' My.x_lenD ?x0 ?x1); (case x0 => walk_at "hp")) | ((with_reducible refine' My.x_append ?x0 ?x1 ?x2); (case x0 => walk_at "hp"); (case x1 => walk_at "ln")) | ((with_reducible refine' My.x_tyL ?x0 ?x1); (case x0 => walk_at "hp")) | ((with_reducible refine' My.x_ilistE ?x0 ?x1); (case x0 => walk_at "sq")) | ((with_reducible refine' My.x_ienumE ?x0 ?x1); (case x0 => walk_at "sq")) | ((with_reducible refine' My.x_sortI ?x0 ?x1); (case x0 => walk_at "sq")) | ((with_reducible refine' My.x_slL ?x0 ?x1); (case x0 => walk_at "sq")) | ((with_reducible refine' My.x_revL2 ?x0 ?x1); (case x0 => walk_at "sq")) | ((with_reducible refine' My.x_eq ?x0 ?x1); (case x0 => exact rfl)) | ((with_reducible refine' My.x_ne ?x0 ?x1); (case x0 => exact rfl)) | ((with_reducible refine' My.x_dputI ?x0 ?x1 ?x2); (case x0 => walk_at "hp"); (case x1 => walk_at "ln")) | ((with_reducible refine' My.x_dputS ?x0 ?x1 ?x2); (case x0 => walk_at "hp"); (case x1 => walk_at "ln")) | ((with_reducible refine' My.x_seqof ?x0 ?x1); (case x0 => walk_at "sq")) | ((with_reducible refine' My.x_gtup ?x0 ?x1 ?x2); (case x0 => walk_at "st"); (case x1 => exact rfl)) | ((with_reducible refine' My.x_mem1 ?x0 ?x1); (case x0 => walk_at "ln")))
local macro_rules | `(tactic| walk_at "go") => `(tactic| repeat (walk_at "go1"))
local macro_rules | `(tactic| walk_at "sx1") => `(tactic| first | with_reducible refine My.x_gx ?_ | with_reducible refine My.x_gxK ?_ | with_reducible refine My.x_gi ?_ | with_reducible refine My.x_gst ?_ | with_reducible refine My.x_xg ?_ | with_reducible refine My.x_nF ?_ | with_reducible refine My.x_nT ?_ | with_reducible refine My.x_fld ?_ | with_reducible refine My.x_sfld ?_ | with_reducible refine My.x_meth ?_ | with_reducible refine My.x_make ?_ | with_reducible refine My.x_din ?_ | with_reducible refine My.x_dnin ?_ | with_reducible refine My.x_ikeys ?_ | with_reducible refine My.x_itup ?_ | with_reducible refine My.x_mkO ?_ | with_reducible refine My.x_vei ?_ | with_reducible refine My.x_ost ?_ | with_reducible refine My.x_nF ?_ | with_reducible refine My.x_nT ?_)
local macro_rules | `(tactic| walk_at "go1") => `(tactic| first | ((with_reducible refine' My.x_fldE ?x0 ?x1 ?x2 ?x3 ?x4); (case x0 => walk_at "hp"); (case x1 => assumption); (case x2 => assumption); (case x3 => exact rfl)) | ((with_reducible refine' My.x_sfldE ?x0 ?x1 ?x2 ?x3 ?x4 ?x5); (case x0 => walk_at "hp"); (case x1 => assumption); (case x2 => assumption); (case x3 => decide); (case x4 => exact rfl)) | ((with_reducible refine' My.x_methE ?x0 ?x1 ?x2); (case x0 => walk_at "hp"); (case x1 => exact rfl)) | ((with_reducible refine' My.x_itupE ?x0 ?x1); (case x0 => walk_at "st")))
namespace K01
open PySem PySem.Spec PyProof.Rows L2
/-! ### what blocks hold -/
def tilde : Str := ⟨(List.replicate 4000 126).toArray⟩
def T4 : List Str := [("" : Str), ("a" : Str), ("b c" : Str), tilde]
def Cell (v : V) : Prop := v = .non ∨ ∃ z ∈ T4, v = .str z
def Cells (xs : List V) : Prop := ∀ v ∈ xs, Cell v
def dat : V → PyData
  | .str z => .str z
  | _ => .none
theorem fold_app (c : Nat) : ∀ (n : Nat) (acc : Array Nat), ((List.replicate n #[c]).foldl (· ++ ·) acc) = acc ++ (List.replicate n c).toArray
  | 0, acc => by simp
  | n + 1, acc => by
    rw [List.replicate_succ, List.foldl_cons, fold_app c n, List.replicate_succ]
    apply Array.ext'
    simp
theorem strOk_T4 : ∀ z ∈ T4, PyData.strOk z = true := by
  intro z hz
  simp only [T4, List.mem_cons, List.not_mem_nil, or_false] at hz
  rcases hz with rfl | rfl | rfl | rfl
  · decide +kernel
  · decide +kernel
  · decide +kernel
  · unfold PyData.strOk tilde
    rw [List.all_toArray, List.all_replicate]; simp
theorem okT_T4 : ∀ z ∈ T4, okT z = true := by
  intro z hz
  simp only [T4, List.mem_cons, List.not_mem_nil, or_false] at hz
  rcases hz with rfl | rfl | rfl | rfl
  · decide +kernel
  · decide +kernel
  · decide +kernel
  · unfold okT tilde Str.length
    simp only [List.size_toArray, List.length_replicate, List.all_replicate]
    decide +kernel
theorem dp_cells {K : PySem.W.Frag} {H : Hp} : ∀ {xs : List V}, Cells xs → DpAll K H xs (xs.map dat)
  | [], _ => .nil
  | v :: r, h => by
    refine .cons ?_ (dp_cells fun x hx => h x (List.mem_cons_of_mem _ hx))
    rcases h v List.mem_cons_self with rfl | ⟨z, _, rfl⟩
    · exact .non
    · exact .str z
theorem lay_cells : ∀ {xs : List V}, Cells xs → PyData.canLayAll0 (xs.map dat) = true
  | [], _ => by simp [PyData.canLayAll0]
  | v :: r, h => by
    have ih := lay_cells fun x hx => h x (List.mem_cons_of_mem _ hx)
    rcases h v List.mem_cons_self with rfl | ⟨z, hz, rfl⟩
    · simp [PyData.canLayAll0, PyData.canLay0, dat, ih]
    · simp [PyData.canLayAll0, PyData.canLay0, dat, ih, strOk_T4 z hz]
theorem depth_cells : ∀ {xs : List V}, Cells xs → PyData.depthAll (xs.map dat) = 0
  | [], _ => by simp [PyData.depthAll]
  | v :: r, h => by
    have ih := depth_cells fun x hx => h x (List.mem_cons_of_mem _ hx)
    rcases h v List.mem_cons_self with rfl | ⟨z, hz, rfl⟩
    · simp [PyData.depthAll, PyData.depth, dat, ih]
    · simp [PyData.depthAll, PyData.depth, dat, ih]
theorem shaped_cells {xs : List V} (h : Cells xs) : SeqAt.shaped (.list (xs.map dat)) = true := by
  unfold SeqAt.shaped
  simp [PyData.canLay0, lay_cells h, PyData.depth, depth_cells h]
theorem eqv_cells : ∀ {xs ys : List V}, Cells xs → Cells ys → PyData.eqvAll (xs.map dat) (ys.map dat) = decide (xs = ys)
  | [], [], _, _ => by simp [PyData.eqvAll]
  | [], _ :: _, _, _ => by simp [PyData.eqvAll]
  | _ :: _, [], _, _ => by simp [PyData.eqvAll]
  | v :: r, u :: q, h, h' => by
    have ih := eqv_cells (fun x hx => h x (List.mem_cons_of_mem _ hx)) (fun x hx => h' x (List.mem_cons_of_mem _ hx))
    rw [List.map_cons, List.map_cons, PyData.eqvAll, ih]
    rcases h v List.mem_cons_self with rfl | ⟨z, hz, rfl⟩
    · rcases h' u List.mem_cons_self with rfl | ⟨y, hy, rfl⟩
      · rw [Bool.eq_iff_iff]; simp [dat, PyData.eqv]
      · rw [Bool.eq_iff_iff]; simp [dat, PyData.eqv]
    · rcases h' u List.mem_cons_self with rfl | ⟨y, hy, rfl⟩
      · rw [Bool.eq_iff_iff]; simp [dat, PyData.eqv]
      · rw [Bool.eq_iff_iff]; simp [dat, PyData.eqv]
theorem x_eqC {K : PySem.W.Frag} {H : Hp} {Q : VK} {a b : Addr} {xs ys : List V} (s : SqL K H a xs) (t : SqL K H b ys) (cx : Cells xs) (cy : Cells ys) (h : Q (.bl (decide (xs = ys))) H) : rEqD K (.ref a) (.ref b) H Q :=
  ⟨_, _, .lst s (dp_cells cx), .lst t (dp_cells cy), shaped_cells cx, shaped_cells cy, by rw [PyData.eqv, eqv_cells cx cy]; exact h⟩
theorem x_neC {K : PySem.W.Frag} {H : Hp} {Q : VK} {a b : Addr} {xs ys : List V} (s : SqL K H a xs) (t : SqL K H b ys) (cx : Cells xs) (cy : Cells ys) (h : Q (.bl (!decide (xs = ys))) H) : rNeD K (.ref a) (.ref b) H Q :=
  ⟨_, _, .lst s (dp_cells cx), .lst t (dp_cells cy), shaped_cells cx, shaped_cells cy, by rw [PyData.eqv, eqv_cells cx cy]; exact h⟩
theorem cells_set {xs : List V} {n : Nat} {v : V} (h : Cells xs) (hv : Cell v) : Cells (xs.set n v) := fun x hx => (List.mem_or_eq_of_mem_set hx).elim (h x) fun e => by rw [e]; exact hv
theorem cells_stA {qs : List (Nat × V)} {is js : List Int} {acc : List V} {k : Nat} (h : Cells acc) (hq : ∀ p ∈ qs, Cell p.2) : Cells (stA qs is js acc k) := by
  unfold stA
  split
  · exact h
  · rename_i p e
    split
    · exact cells_set h (.inl rfl)
    · split
      · exact cells_set h (hq p (List.mem_of_getElem? e))
      · exact h
theorem cells_aftN {xs : List V} {qs : List (Nat × V)} {is js : List Int} (h : Cells xs) (hq : ∀ p ∈ qs, Cell p.2) (n : Nat) : Cells (aftN xs qs is js n) := by
  induction n with
  | zero => exact h
  | succ n ih => rw [aftN_succ]; exact cells_stA ih hq
/-! ### the forms of Disk.crashed's calls -/
abbrev g0 (K : PySem.W.Frag) (vs zs : List V) : List V := vs ++ [.ref (etN "kept" K), .ref (etN "torn" K)]
abbrev gk (K : PySem.W.Frag) (vs zs : List V) : List V := vs ++ (zs ++ [.ref (etN "torn" K)])
abbrev gt (K : PySem.W.Frag) (vs zs : List V) : List V := vs ++ ([.ref (etN "kept" K)] ++ zs)
abbrev gkt (vs zs : List V) : List V := vs ++ zs
def sp_eq (K : PySem.W.Frag) : Sp := fun vs H Q _ => ∃ (a dx b s q : Addr) (bs ss : List V) (ts : List Addr) (y : V), vs = [.ref a, y] ∧ DkB K H a dx b s q bs ss ts ∧ Cells ss ∧
  ((∃ (a2 dx2 b2 s2 q2 : Addr) (bs2 ss2 : List V) (ts2 : List Addr), y = .ref a2 ∧ DkB K H a2 dx2 b2 s2 q2 bs2 ss2 ts2 ∧ Cells ss2 ∧ Q (.bl (decide (ss = ss2))) H) ∨ (∃ t, TyX K H y t ∧ PySem.W.kitOne K t (.ref (CD K)) = some false ∧ Q (.bl false) H))
section
variable {P : Program} {w : World} {K : PySem.W.Frag} {mg : Str → Option Value} {base : Heap} {t1 t2 : Tok}
theorem ok_eq (T : Tx K mg t1 t2) {fd : FuncData} (F : Fd K d_Disk_eq fd) : FnOk P w K mg base CX0 1 (He.fAd K d_Disk_eq.at_) fd ["self", "other"] (sp_eq K) := by
  refine F.ok sc_Disk_eq (fun vs H Q E h => ?_) (fun cdv A outer s H vs Q E hr h => ?_)
  · obtain ⟨a, dx, b, s, q, bs, ss, ts, y, rfl, _⟩ := h
    rfl
  · obtain ⟨a, dx, b, s', q, bs, ss, ts, y, rfl, hD, hc, h⟩ := h
    obtain ⟨fa, fb, fs, fq, _, _, _⟩ := hD
    have fc := T.cls
    have fn := T.ns
    refine ⟨_, PSs.nox ((pss_one (ps_ret (pe_and (pe_callB call_isi (by rfl) T.n_isinstance (by decide +kernel) (pa_cons (pv 1) (pa_cons (pe_glob (v := .ref (He.ga K "Disk")) rfl T.g_Disk rfl) pa_nil))) (pe_one (pe_cmpR (op_eqD hr.units) (My.pe_fldK (K := K) (by rfl) (pv 0) (by rfl)) (My.pe_fldK (K := K) (by rfl) (pv 1) (by rfl)) (nomark _))))))), ?_⟩
    refine My.x_start (σ := [some (V.ref a), some y]) rfl ?_
    try dsimp only [cxOf, Cx.nox]
    walk_at "go"
    rcases h with ⟨a2, dx2, b2, s2, q2, bs2, ss2, ts2, rfl, D2, c2, q⟩ | ⟨t, ht, hk, q⟩
    · obtain ⟨ga, gb, gs, gq, _, _, _⟩ := D2
      refine My.x_isi (.own (CD K)) (T.tD _ _ _ _ ga) T.iD ?_
      walk_at "go"
      refine x_eqC (SqL.of fs) (SqL.of gs) hc c2 ?_
      exact q
    · refine My.x_isi (.own (CD K)) ht hk ?_
      walk_at "go"
      exact q
theorem ok_copy (T : Tx K mg t1 t2) {fd : FuncData} (F : Fd K d_Disk_copy fd) (C_crashed : My.CmK P w K mg base CX0 "Disk" "crashed" ["self", "kept", "torn"] 6 (sp_crashed K) [] (g0 K)) :
    FnOk P w K mg base CX0 7 (He.fAd K d_Disk_copy.at_) fd ["self"] (sp_copy K) := by
  refine F.ok sc_Disk_copy (fun vs H Q E h => ?_) (fun cdv A outer s H vs Q E hr h => ?_)
  · obtain ⟨a, dx, b, s, q, bs, ss, ts, qs, rfl, _⟩ := h
    rfl
  · obtain ⟨a, dx, b, s', q, bs, ss, ts, qs, rfl, hD, hQ, hb0, hb1, hz, hlt, h⟩ := h
    have fa := hD.ha
    have fc := T.cls
    have fs := T.ns
    have fq := T.nq
    refine ⟨_, PSs.nox ((pss_cons (ps_set (i := 1) sc_Disk_copy.nd rfl (Or.inl rfl) (My.pe_cmK0 C_crashed (hr.mono (by decide)) pass0 (pv 0)))
  (pss_cons (ps_fld (pv 1) (pe_callTy call_list_of (by rfl) T.n_list (by decide +kernel) (pa_cons (My.pe_fldK (K := K) (by rfl) (pv 0) (by rfl)) pa_nil)) rfl)
  (pss_cons (ps_fld (pv 1) (pe_callTy call_list_of (by rfl) T.n_list (by decide +kernel) (pa_cons (My.pe_fldK (K := K) (by rfl) (pv 0) (by rfl)) pa_nil)) rfl)
  (pss_one (ps_ret (pv 1))))))), ?_⟩
    refine My.x_start (σ := [some (V.ref a), none]) rfl ?_
    try dsimp only [cxOf, Cx.nox]
    walk_at "go"
    refine ⟨_, rfl, a, dx, _, rfl, fa, rfl, rfl, a, dx, b, s', q, bs, ss, ts, qs, _, _, [], [], rfl, hD, hQ, hb0, hb1, hz, hlt, ⟨_, rfl, .inr (T.et1 H)⟩, ⟨_, rfl, .inr (T.et2 H)⟩, ⟨Nat.zero_le _, fun _ z => nomatch z⟩, ⟨Nat.zero_le _, fun _ z => nomatch z⟩, fun a' dx' b' s2 q2 H1 na nb ns nq S1 D1 => ?_⟩
    obtain ⟨ga, gb, gs, gq, m1, m2, m3⟩ := D1
    obtain ⟨fa1, fb1, fs1, fq1, _, _, _⟩ := hD.same S1
    walk_at "go"
    intro L hL
    have nL : H L = none := S1.free hL
    have S2 := My.Same.new (o := .lst (ts.map V.ref)) S1 hL
    have e2 : upd H1 L (.lst (ts.map V.ref)) L = some (.lst (ts.map V.ref)) := upd_same
    have a2 : upd H1 L (.lst (ts.map V.ref)) a' = some (.ins (CD K) dx' (flds b' s2 q2)) := by rw [upd_ne (ne_of_none ga hL)]; exact ga
    have b2 : upd H1 L (.lst (ts.map V.ref)) b' = some (.lst (aft bs qs [] [])) := by rw [upd_ne (ne_of_none gb hL)]; exact gb
    have bL : b' ≠ L := ne_of_none gb hL
    have aL : a' ≠ L := ne_of_none ga hL
    have ab : a' ≠ b' := fun e => by rw [e, gb] at ga; cases ga
    generalize upd H1 L (.lst (ts.map V.ref)) = H2 at S2 e2 a2 b2 ⊢
    clear S1 hL fa1 fb1 fs1 fq1 ga gb gs gq
    walk_at "go"
    refine My.x_sfldE a2 fc fq (by show 4 < 1000; decide) (gs := flds b' s2 L) rfl ?_
    have S3 : Same H (upd H2 a' (.ins (CD K) dx' (flds b' s2 L))) := My.Same.mut S2 na
    have a3 : upd H2 a' (.ins (CD K) dx' (flds b' s2 L)) a' = some (.ins (CD K) dx' (flds b' s2 L)) := upd_same
    have e3 : upd H2 a' (.ins (CD K) dx' (flds b' s2 L)) L = some (.lst (ts.map V.ref)) := by rw [upd_ne aL.symm]; exact e2
    have b3 : upd H2 a' (.ins (CD K) dx' (flds b' s2 L)) b' = some (.lst (aft bs qs [] [])) := by rw [upd_ne ab.symm]; exact b2
    generalize upd H2 a' (.ins (CD K) dx' (flds b' s2 L)) = H3 at S3 a3 e3 b3 ⊢
    clear S2 e2 a2 b2
    obtain ⟨fa1, fb1, fs1, fq1, _, _, _⟩ := hD.same S3
    walk_at "go"
    intro M hM
    have nM : H M = none := S3.free hM
    have aM : a' ≠ M := ne_of_none a3 hM
    have a4 : upd H3 M (.lst ss) a' = some (.ins (CD K) dx' (flds b' s2 L)) := by rw [upd_ne aM]; exact a3
    walk_at "go"
    refine My.x_sfldE a4 fc fs (by show 4 < 1000; decide) (gs := flds b' M L) rfl ?_
    walk_at "go"
    refine h a' dx' b' M L _ na nb nM nL (My.Same.mut (My.Same.new S3 hM) na) ⟨upd_same, ?_, ?_, ?_, ne_of_none b3 hM, bL, (ne_of_none e3 hM).symm⟩
    · rw [upd_ne ab.symm, upd_ne (ne_of_none b3 hM)]; exact b3
    · rw [upd_ne aM.symm, upd_same]
    · rw [upd_ne aL.symm, upd_ne (ne_of_none e3 hM)]; exact e3
end
end K01

end

section
local macro_rules | `(tactic| walk_at "ne") => `(tactic| first | assumption | (apply Ne.symm; assumption) | exact L2.ne_of_none (by assumption) (by assumption) | exact (L2.ne_of_none (by assumption) (by assumption)).symm)
local macro_rules | `(tactic| walk_at "hp") => `(tactic| first | assumption | exact L2.upd_same | (rw [L2.upd_ne (by walk_at "ne")]; walk_at "hp"))
local macro_rules | `(tactic| walk_at "sq") => `(tactic| first | assumption | exact L2.SqL.of (by walk_at "hp") | exact My.sq_new (by walk_at "sq") (by assumption))
local macro_rules | `(tactic| walk_at "sd") => `(tactic| first | decide | omega | (unfold L2.CDivN; omega) | (unfold L2.CMul; omega) | (unfold L2.CPow; omega))
local macro_rules | `(tactic| walk_at "sx1") => `(tactic| first | with_reducible refine My.x_seq ?_ | with_reducible refine My.x_asg ?_ | with_reducible refine My.x_ret ?_ | with_reducible refine My.x_next ?_ | with_reducible refine My.x_op ?_ | with_reducible refine My.x_c ?_ | with_reducible refine My.x_ifs ?_ | with_reducible refine My.x_test ?_ | with_reducible refine My.x_exbl ?_ | with_reducible refine My.x_cons ?_ | with_reducible refine My.x_nil ?_ | with_reducible refine My.x_cb ?_ | with_reducible refine My.x_drop ?_ | with_reducible refine My.x_par ?_ | with_reducible refine My.x_exp2 ?_ | with_reducible refine My.x_aug ?_ | with_reducible refine My.x_if ?_ | with_reducible refine My.x_tB ?_ | with_reducible refine My.x_and ?_ | with_reducible refine My.x_or ?_ | with_reducible refine My.x_not ?_ | with_reducible refine My.x_retn ?_ | with_reducible refine My.x_cont ?_ | with_reducible refine My.x_brk ?_ | with_reducible refine My.x_un ?_ | with_reducible refine My.x_tfor ?_ | with_reducible refine My.x_ilist ?_ | with_reducible refine My.x_rng1 ?_ | with_reducible refine My.x_rng2 ?_ | with_reducible refine My.x_r1 ?_ | with_reducible refine My.x_call ?_ | with_reducible refine My.x_sl ?_ | with_reducible refine My.x_part ?_ | with_reducible refine My.x_nopart ?_ | with_reducible refine My.x_ii0 ?_ | with_reducible refine My.x_yes ?_ | with_reducible refine My.x_andv ?_ | with_reducible refine My.x_orv ?_ | with_reducible refine My.x_notv ?_ | with_reducible refine My.x_iT ?_ | with_reducible refine My.x_iF ?_ | with_reducible refine My.x_chain ?_ | with_reducible refine My.x_exI ?_ | with_reducible refine My.x_wipe ?_ | with_reducible refine My.x_bm ?_ | with_reducible refine My.x_bm0 ?_ | with_reducible refine My.x_gsub ?_ | with_reducible refine My.x_int1 ?_ | with_reducible refine My.x_two ?_ | with_reducible refine My.x_lst ?_ | with_reducible refine My.x_tup ?_ | with_reducible refine My.x_revL ?_ | with_reducible refine My.x_dput ?_ | with_reducible refine My.x_dget ?_ | with_reducible refine My.x_dnew ?_ | with_reducible refine My.x_dc ?_ | with_reducible refine My.x_lc ?_ | with_reducible refine My.x_ienum ?_ | with_reducible refine My.x_gcons ?_ | with_reducible refine My.x_gnil ?_ | with_reducible refine My.x_v0 ?_ | with_reducible refine My.x_v1 ?_ | with_reducible refine My.x_v2 ?_ | with_reducible refine My.x_v3 ?_ | with_reducible refine My.x_v4 ?_ | with_reducible refine My.x_v5 ?_ | with_reducible refine My.x_v6 ?_ | with_reducible refine My.x_v7 ?_ | with_reducible refine My.x_v8 ?_ | with_reducible refine My.x_v9 ?_ | with_reducible refine My.x_v10 ?_ | with_reducible refine My.x_v11 ?_ | with_reducible refine My.x_v12 ?_ | with_reducible refine My.x_v13 ?_ | with_reducible refine My.x_v14 ?_ | with_reducible refine My.x_v15 ?_ | with_reducible refine My.x_v16 ?_ | with_reducible refine My.x_v17 ?_ | with_reducible refine My.x_v18 ?_ | with_reducible refine My.x_v19 ?_ | with_reducible refine My.x_v20 ?_ | with_reducible refine My.x_v21 ?_ | with_reducible refine My.x_v22 ?_ | with_reducible refine My.x_v23 ?_ | with_reducible refine My.x_v24 ?_ | with_reducible refine My.x_v25 ?_ | with_reducible refine My.x_g0 ?_ | with_reducible refine My.x_g1 ?_ | with_reducible refine My.x_g2 ?_ | with_reducible refine My.x_g3 ?_ | with_reducible refine My.x_g4 ?_ | with_reducible refine My.x_g5 ?_ | with_reducible refine My.x_g6 ?_ | with_reducible refine My.x_g7 ?_ | with_reducible refine My.x_g8 ?_ | with_reducible refine My.x_g9 ?_ | with_reducible refine My.x_g10 ?_ | with_reducible refine My.x_g11 ?_ | with_reducible refine My.x_g12 ?_ | with_reducible refine My.x_g13 ?_ | with_reducible refine My.x_g14 ?_ | with_reducible refine My.x_g15 ?_ | with_reducible refine My.x_g16 ?_ | with_reducible refine My.x_g17 ?_ | with_reducible refine My.x_g18 ?_ | with_reducible refine My.x_g19 ?_ | with_reducible refine My.x_g20 ?_ | with_reducible refine My.x_g21 ?_ | with_reducible refine My.x_g22 ?_ | with_reducible refine My.x_g23 ?_ | with_reducible refine My.x_g24 ?_ | with_reducible refine My.x_g25 ?_)
local macro_rules | `(tactic| walk_at "sx") => `(tactic| repeat (walk_at "sx1"))
local macro_rules | `(tactic| walk_at "ln") => `(tactic| first | assumption | exact Nat.le_of_ble_eq_true rfl | (simp only [List.length_append, List.length_map, List.length_cons, List.length_nil]; simp only [PySem.sizeLine]; omega))
local macro_rules | `(tactic| walk_at "st") => `(tactic| first | assumption | exact L2.SqT.of (by walk_at "hp"))
local macro_rules | `(tactic| walk_at "go1") => `(tactic| first | walk_at "sx1" | ((with_reducible refine' My.x_ixL ?x0 ?x1 ?x2); (case x0 => walk_at "sq"); (case x1 => exact rfl)) | ((with_reducible refine' My.x_ixT ?x0 ?x1 ?x2); (case x0 => walk_at "st"); (case x1 => exact rfl)) | ((with_reducible refine' My.x_i ?x0 ?x1); (case x0 => walk_at "sd")) | ((with_reducible refine' My.x_setL ?x0 ?x1 ?x2); (case x0 => walk_at "hp"); (case x1 => exact rfl)) | ((with_reducible refine' My.x_len ?x0 ?x1); (case x0 => walk_at "sq")) | ((with_reducible refine' My.x_lenT ?x0 ?x1); (case x0 => walk_at "st")) | ((with_reducible refine' My.x_lenD ?x0 ?x1); (case x0 => walk_at "hp")) | ((with_reducible refine' My.x_append ?x0 ?x1 ?x2); (case x0 => walk_at "hp"); (case x1 => walk_at "ln")) | ((with_reducible refine' My.x_tyL ?x0 ?x1); (case x0 => walk_at "hp")) | ((with_reducible refine' My.x_ilistE ?x0 ?x1); (case x0 => walk_at "sq")) | ((with_reducible refine' My.x_ienumE ?x0 ?x1); (case x0 => walk_at "sq")) | ((with_reducible refine' My.x_sortI ?x0 ?x1); (case x0 => walk_at "sq")) | ((with_reducible refine' My.x_slL ?x0 ?x1); (case x0 => walk_at "sq")) | ((with_reducible refine' My.x_revL2 ?x0 ?x1); (case x0 => walk_at "sq")) | ((with_reducible refine' My.x_eq ?x0 ?x1); (case x0 => exact rfl)) | ((with_reducible refine' My.x_ne ?x0 ?x1); (case x0 => exact rfl)) | ((with_reducible refine' My.x_dputI ?x0 ?x1 ?x2); (case x0 => walk_at "hp"); (case x1 => walk_at "ln")) | ((with_reducible refine' My.x_dputS ?x0 ?x1 ?x2); (case x0 => walk_at "hp"); (case x1 => walk_at "ln")) | ((with_reducible refine' My.x_seqof ?x0 ?x1); (case x0 => walk_at "sq")) | ((with_reducible refine' My.x_gtup ?x0 ?x1 ?x2); (case x0 => walk_at "st"); (case x1 => exact rfl)) | ((with_reducible refine' My.x_mem1 ?x0 ?x1); (case x0 => walk_at "ln")))
local macro_rules | `(tactic| walk_at "go") => `(tactic| repeat (walk_at "go1"))
local macro_rules | `(tactic| walk_at "sx1") => `(tactic| first | with_reducible refine My.x_gx ?_ | with_reducible refine My.x_gxK ?_ | with_reducible refine My.x_gi ?_ | with_reducible refine My.x_gst ?_ | with_reducible refine My.x_xg ?_ | with_reducible refine My.x_nF ?_ | with_reducible refine My.x_nT ?_ | with_reducible refine My.x_fld ?_ | with_reducible refine My.x_sfld ?_ | with_reducible refine My.x_meth ?_ | with_reducible refine My.x_make ?_ | with_reducible refine My.x_din ?_ | with_reducible refine My.x_dnin ?_ | with_reducible refine My.x_ikeys ?_ | with_reducible refine My.x_itup ?_ | with_reducible refine My.x_mkO ?_ | with_reducible refine My.x_vei ?_ | with_reducible refine My.x_ost ?_ | with_reducible refine My.x_nF ?_ | with_reducible refine My.x_nT ?_)
local macro_rules | `(tactic| walk_at "go1") => `(tactic| first | ((with_reducible refine' My.x_fldE ?x0 ?x1 ?x2 ?x3 ?x4); (case x0 => walk_at "hp"); (case x1 => assumption); (case x2 => assumption); (case x3 => exact rfl)) | ((with_reducible refine' My.x_sfldE ?x0 ?x1 ?x2 ?x3 ?x4 ?x5); (case x0 => walk_at "hp"); (case x1 => assumption); (case x2 => assumption); (case x3 => decide); (case x4 => exact rfl)) | ((with_reducible refine' My.x_methE ?x0 ?x1 ?x2); (case x0 => walk_at "hp"); (case x1 => exact rfl)) | ((with_reducible refine' My.x_itupE ?x0 ?x1); (case x0 => walk_at "st")))
namespace K01
open PySem PySem.Spec PyProof.Rows L2
theorem sc_Disk_crashes : GScope ["self", "choices", "place", "chosen", "more"] ["self"] (defScope s_Disk_crashes) := ⟨rfl, rfl, rfl, by decide +kernel, rfl, by decide +kernel, by decide +kernel⟩
/-- a generator method, as its users need it -/
structure Cg (P : Program) (w : World) (K : PySem.W.Frag) (mg : Str → Option Value) (base : Heap) (x m : Str) (k : Nat) (sp : SpG1) : Prop where
  ex : ∃ fd p1, GFn1 P w K mg base k (He.ma K (He.ga K x) m) fd [p1] sp ∧ Binds K fd [p1] []
  me : Meth K (He.ga K x) m (He.ma K (He.ga K x) m)
  cl : Cls K (He.ga K x)
theorem pgen_cg {X : Cx} {x m : Str} {k : Nat} {sp : SpG1} {o : Expr} {apos pos : Pos} {ta : TE} {pl : Sem Bool} (C : Cg X.prog X.w X.K X.mg X.base x m k sp) (hr : Room k X.A) (he : PE X o ta)
    (ht : eval (.Call (.Attribute o m apos) [] [] pos) X.env = (do
      let ov ← eval o X.env
      standAt apos.atName
      let (f, first) ← holding [ov] (getMethod ov m pl)
      callWith pos f first (backTo pos (starEach [] X.env)) (backToKw pos (keywordEach [] X.env))) := by rfl) : PGen1 X (.Call (.Attribute o m apos) [] [] pos) k sp (tGen0 (He.ga X.K x) m ta) := by
  obtain ⟨fd, p1, F, hb⟩ := C.ex
  exact pgen1_meth0 he C.cl C.me F hr hb ht
theorem peu_cl {X : Cx} {g y : Str} {k iy : Nat} {ps : List Str} {sp : Sp} {p py pos : Pos} (C : My.Cl X.prog X.w X.K X.mg X.base g ps k sp) (hr : Room k X.A) (hg : Gl X g) (hN : X.N[iy]? = some y) (hv : Vis X.env.scope y)
    (hdg : (g == ("__debug__" : Str)) = false := by decide) (hd : (y == ("__debug__" : Str)) = false := by decide) (hcd : (y == ("__classdict__" : Str)) = false := by decide) :
    PEu X (.Call (.Name g p) [.Name y py] [] pos) (fun σ H Q => ∃ v, σ[iy]? = some (some v) ∧ sp [v] H Q E0) := by
  obtain ⟨fd, F, hb⟩ := C.ex
  exact peu_call (CX := CX0) F.len (fun s H us vs Q e0 hbd r h => F.run X.A X.stack s H ⟨us, []⟩ us vs Q E0 hr e0 hbd r h) (fun _ _ _ _ h => h.elim) hb hg C.g C.kp hN hv hdg hd hcd
theorem FunD.okGen1 {P : Program} {w : World} {K : PySem.W.Frag} {mg : Str → Option Value} {base : Heap} {x qual : Str} {params : Arguments} {body : List Stmt} {scope : Scope} {dvs : List V} {kws : List (Str × V)} {f : Addr} {fd : FuncData} {N ps : List Str} {k : Nat} {sp : SpG1}
    (F : FunD K x qual params body scope dvs kws f fd) (S : GScope N ps scope)
    (hbody : ∀ (cdv : Value) (A : Around) (outer : List Env) (s : Shared) (H : Hp) (vs : List V) (pn : List (Addr × Obj)), Room k (A.deeper (envOfC qual scope s.heap.objs.size f cdv)) → vs.length = ps.length →
      ∃ t, GSs1 (gcx1 P w K mg base N qual scope f cdv A outer s H pn) body t ∧ ∀ yl M H2 Q, sp vs yl M H2 Q → t yl M { nx := fun i _ H' => Q i H', rt := fun i v H' => v = .non ∧ Q i H' } 0 (start N vs) H2) :
    GFn1 P w K mg base (k + 1) f fd ps sp := by
  obtain ⟨oc, od, dV, kV, doc, pm, an, cdv, ct, osl, rfl, lk, hcd, _, _⟩ := F.ex
  exact gfn1_of lk hcd S fun A outer s H vs pn => hbody cdv A outer s H vs pn
theorem pi_tupK {X : Cx} {K : PySem.W.Frag} {tg iter : Expr} {te : TE} (hK : X.K = K) (h : PE X iter te) : PI X tg iter (iTup K te) := by
  subst hK
  exact pi_tup h
section
variable {α : Type} {J : It} {ys : List α} {G : Hp → Prop} {it : Nat → α → Hp → V → Hp → Prop}
/-- a walk without a store of its own -/
theorem runs_any (R : My.Runs J ys G it) (Pv : List α → Hp → Prop) {H0 : Hp} {Qd : Hp → Prop} {St : V → Hp → (Hp → Prop) → Prop} (h0 : Pv [] H0) (hl : ∀ pre post H, ys = pre ++ post → Pv pre H → G H)
    (hs : ∀ pre x post H v H', ys = pre ++ x :: post → Pv pre H → it pre.length x H v H' → St v H' (Pv (pre ++ [x]))) (hd : ∀ H, Pv ys H → Qd H) :
    ∃ W : Nat → Nat → Hp → Prop, (∃ m, W 0 m H0) ∧ ∀ i m H, W i m H → (J.stop i H ∧ Qd H) ∨ (J.go i H ∧ ∃ Nx : Hp → Prop, (∀ H', Nx H' → ∃ m', m' < m ∧ W (i + 1) m' H') ∧ ∀ v H', J.yld i H v H' → St v H' Nx) := by
  refine ⟨fun i m H => ∃ pre post, ys = pre ++ post ∧ pre.length = i ∧ post.length = m ∧ Pv pre H, ⟨ys.length, [], ys, rfl, rfl, rfl, h0⟩, ?_⟩
  rintro i m H ⟨pre, post, e, rfl, rfl, p⟩
  cases post with
  | nil =>
    rw [List.append_nil] at e
    subst e
    exact .inl ⟨R.stop _ H (Nat.le_refl _) (hl _ [] H (by simp) p), hd H p⟩
  | cons x post =>
    have hx : ys[pre.length]? = some x := by rw [e]; simp
    have g := hl pre (x :: post) H e p
    exact .inr ⟨R.go _ x H hx g, Pv (pre ++ [x]), fun H' p' => ⟨post.length, Nat.lt_succ_self _, pre ++ [x], post, by rw [e]; simp, by simp, rfl, p'⟩, fun v H' y => hs pre x post H v H' e p (R.yld _ x H v H' hx g y)⟩
theorem gfor_runs {g : TG} {tb : TG1} {yl : Yl} {N : Nat} {D : GE1} {i : Nat} {σ : L2.St} {H : Hp} (R : My.Runs J ys G it) (Pv : List α → Nat → L2.St → Hp → Prop) (h0 : Pv [] i σ H) (hl : ∀ pre post i σ H, ys = pre ++ post → Pv pre i σ H → G H)
    (hs : ∀ pre x post i σ H v H', ys = pre ++ x :: post → Pv pre i σ H → it pre.length x H v H' → g v σ H' fun σ2 H2 => tb yl N { D with nx := Pv (pre ++ [x]), ct := Pv (pre ++ [x]), bk := D.nx } i σ2 H2) (hd : ∀ i σ H, Pv ys i σ H → D.nx i σ H) :
    ∃ W : Nat → Nat → Nat → L2.St → Hp → Prop, (∃ m, W 0 m i σ H) ∧ ∀ j m i σ H, W j m i σ H →
      (J.stop j H ∧ D.nx i σ H) ∨ (J.go j H ∧ ∃ B : Nat → L2.St → Hp → Prop, (∀ i' σ' H', B i' σ' H' → ∃ m', m' < m ∧ W (j + 1) m' i' σ' H') ∧ ∀ x H', J.yld j H x H' → g x σ H' fun σ2 H2 => tb yl N { D with nx := B, ct := B, bk := D.nx } i σ2 H2) := by
  refine ⟨fun j m i σ H => ∃ pre post, ys = pre ++ post ∧ pre.length = j ∧ post.length = m ∧ Pv pre i σ H, ⟨ys.length, [], ys, rfl, rfl, rfl, h0⟩, ?_⟩
  rintro j m i σ H ⟨pre, post, e, rfl, rfl, p⟩
  cases post with
  | nil =>
    rw [List.append_nil] at e
    subst e
    exact .inl ⟨R.stop _ H (Nat.le_refl _) (hl _ [] i σ H (by simp) p), hd i σ H p⟩
  | cons x post =>
    have hx : ys[pre.length]? = some x := by rw [e]; simp
    have g := hl pre (x :: post) i σ H e p
    exact .inr ⟨R.go _ x H hx g, Pv (pre ++ [x]), fun i' σ' H' p' => ⟨post.length, Nat.lt_succ_self _, pre ++ [x], post, by rw [e]; simp, by simp, rfl, p'⟩, fun v H' y => hs pre x post i σ H v H' e p (R.yld _ x H v H' hx g y)⟩
end
/-- all choices of k writes, as the disk orders them -/
def fl (k : Nat) (cs : List (List Int)) : List (List Int) := cs.flatMap fun c => [c, c ++ [(k : Int)]]
def subsC : Nat → List (List Int)
  | 0 => [[]]
  | k + 1 => fl k (subsC k)
theorem subsC_ok : ∀ (n : Nat) (c : List Int), c ∈ subsC n → c.length ≤ n ∧ ∀ x ∈ c, 0 ≤ x ∧ x < (n : Int)
  | 0, c, h => by
    have e : c = [] := by simpa [subsC] using h
    subst e
    exact ⟨Nat.le_refl _, fun x hx => nomatch hx⟩
  | n + 1, c, h => by
    unfold subsC fl at h
    obtain ⟨c', h1, h2⟩ := List.mem_flatMap.mp h
    obtain ⟨l1, l2⟩ := subsC_ok n c' h1
    rcases List.mem_cons.mp h2 with rfl | h2
    · exact ⟨by omega, fun x hx => ⟨(l2 x hx).1, by have := (l2 x hx).2; omega⟩⟩
    · rw [List.mem_singleton.mp h2]
      refine ⟨by rw [List.length_append, List.length_singleton]; omega, fun x hx => ?_⟩
      rcases List.mem_append.mp hx with hx | hx
      · exact ⟨(l2 x hx).1, by have := (l2 x hx).2; omega⟩
      · rw [List.mem_singleton.mp hx]; exact ⟨by omega, by omega⟩
theorem fl_len (k : Nat) (cs : List (List Int)) : (fl k cs).length = 2 * cs.length := by
  unfold fl
  induction cs with
  | nil => rfl
  | cons c r ih => rw [List.flatMap_cons, List.length_append, ih]; simp; omega
theorem subsC_len : ∀ n : Nat, (subsC n).length = 2 ^ n
  | 0 => rfl
  | n + 1 => by unfold subsC; rw [fl_len, subsC_len n, Nat.pow_succ]; omega
theorem fl_snoc {k i : Nat} {cs : List (List Int)} {c : List Int} (h : cs[i]? = some c) : fl k (cs.take (i + 1)) = fl k (cs.take i) ++ [c, c ++ [(k : Int)]] := by
  unfold fl
  rw [List.take_add_one, h, List.flatMap_append]
  rfl
theorem ref_int : ∀ {us : List Addr} {c : List Int}, us.map V.ref = c.map V.int → us = []
  | [], _, _ => rfl
  | _ :: _, [], h => by cases h
  | _ :: _, _ :: _, h => by cases h
/-- lists of numbers at us -/
def Ls (H : Hp) (us : List Addr) (cs : List (List Int)) : Prop := Paired (fun u c => H u = some (.lst (c.map V.int))) us cs
theorem Ls.imp {H H' : Hp} {us : List Addr} {cs : List (List Int)} (h : Ls H us cs) (k : ∀ (u : Addr) (c : List Int), u ∈ us → H u = some (.lst (c.map V.int)) → H' u = some (.lst (c.map V.int))) : Ls H' us cs := by
  unfold Ls at h ⊢
  induction h with
  | nil => exact .nil
  | cons h1 _ ih => exact .cons (k _ _ List.mem_cons_self h1) (ih fun u c hu => k u c (List.mem_cons_of_mem _ hu))
theorem Ls.same {H H' : Hp} {us : List Addr} {cs : List (List Int)} (h : Ls H us cs) (S : Same H H') : Ls H' us cs := h.imp fun _ _ _ e => S _ _ e
theorem Ls.snoc {H : Hp} {us : List Addr} {cs : List (List Int)} {u : Addr} {c : List Int} (h : Ls H us cs) (e : H u = some (.lst (c.map V.int))) : Ls H (us ++ [u]) (cs ++ [c]) := by
  unfold Ls at h ⊢
  induction h with
  | nil => exact .cons e .nil
  | cons h1 _ ih => exact .cons h1 ih
theorem Ls.at {H : Hp} {us : List Addr} {cs : List (List Int)} (h : Ls H us cs) : ∀ (k : Nat) (u : Addr), us[k]? = some u → ∃ c, cs[k]? = some c ∧ H u = some (.lst (c.map V.int)) := by
  unfold Ls at h
  induction h with
  | nil => intro k u e; cases e
  | cons h1 h2 ih =>
    intro k u e
    cases k with
    | zero => cases e; exact ⟨_, rfl, h1⟩
    | succ k => exact ih k u e
theorem Ls.len {H : Hp} {us : List Addr} {cs : List (List Int)} (h : Ls H us cs) : us.length = cs.length := Paired.length h
/-- all but D is kept -/
def Bar (D : Addr) (H H' : Hp) : Prop := ∀ b o, b ≠ D → H b = some o → H' b = some o
def sp_crashes (K : PySem.W.Frag) : SpG1 := fun vs yl M H Q => ∃ (a dx b s q D : Addr) (bs ss : List V) (ts : List Addr) (qs : List (Nat × V)) (Wc : Nat → Hp → Prop), vs = [.ref a] ∧ DkB K H a dx b s q bs ss ts ∧ Qs H ts qs ∧ 1 ≤ bs.length ∧ bs.length ≤ 1000 ∧ ts.length ≤ 5 ∧ (∀ p ∈ qs, p.1 < bs.length) ∧
  H D = some (.lst []) ∧ b ≠ D ∧ s ≠ D ∧ q ≠ D ∧ (subsC ts.length).length ≤ M ∧ Wc 0 H ∧ (∀ i H1 H2, Wc i H1 → Same H1 H2 → Wc i H2) ∧
  (∀ i c a' dx' b' s' q' H2 (k : Hp → Prop), (subsC ts.length)[i]? = some c → Wc i H2 → DkB K H2 a' dx' b' s' q' (aft bs qs c []) (aft bs qs c []) [] → (∀ H3, Bar D H2 H3 → Wc (i + 1) H3 → k H3) → yl i (.ref a') H2 k) ∧
  ∀ H', Wc (subsC ts.length).length H' → Q (subsC ts.length).length H'
section
variable {P : Program} {w : World} {K : PySem.W.Frag} {mg : Str → Option Value} {base : Heap} {t1 t2 : Tok}
theorem ok_crashes (T : Tx K mg t1 t2) {fd : FuncData} (F : Fd K d_Disk_crashes fd) (C_crashedk : My.CmK P w K mg base CX0 "Disk" "crashed" ["self", "kept", "torn"] 6 (sp_crashed K) ["kept"] (gk K)) :
    GFn1 P w K mg base 8 (He.fAd K d_Disk_crashes.at_) fd ["self"] (sp_crashes K) := by
  refine FunD.okGen1 F sc_Disk_crashes (fun cdv A outer s H0 vs pn hr hl => ?_)
  have hx : ∀ e s', ¬ (gcx1 P w K mg base ["self", "choices", "place", "chosen", "more"] d_Disk_crashes.qual d_Disk_crashes.scope (He.fAd K d_Disk_crashes.at_) cdv A outer s H0 pn).xe e s' := fun _ _ z => z
  refine ⟨_, (gss1_cons (gs1_ps hx (ps_set (i := 1) sc_Disk_crashes.nd rfl (Or.inl rfl) (pe_lst (pa_cons (pe_lst pa_nil) pa_nil)))) (gss1_cons (gs1_ps hx (ps_for PassesOwn.never rfl (pi_range1 rfl T.n_range (pa_cons (pe_callB call_len_seq (by rfl) T.n_len (by decide +kernel) (pa_cons (My.pe_fldK (K := K) (by rfl) (pv 0) (by rfl)) pa_nil)) pa_nil)) (pg_name (i := 2) sc_Disk_crashes.nd rfl (Or.inr rfl))
  (pss_one (ps_setLc2 (i := 1) (own := [("chosen", 3), ("more", 4)]) (vs1 := [4]) (g := gName 3) (g1 := gName 4) (tt := tYes) (tt1 := tYes) rfl sc_Disk_crashes.nd rfl rfl (sw_true rfl rfl rfl (by decide +kernel)) (pi_list (pv 1)) (blkOk_by (own := [("chosen", 3), ("more", 4)]) (N := ["self", "choices", "place", "chosen", "more"]) (sc := defScope s_Disk_crashes) (by decide +kernel)) (by decide) (fun _ _ _ _ _ => pg_name (i := 3) sc_Disk_crashes.nd rfl (Or.inl rfl)) (fun _ _ _ _ _ => pts_nil) (fun _ _ _ _ _ => (pi_tupK (K := K) (by rfl) (pe_tup (pa_cons (pe_lst pa_nil) (pa_cons (pe_lst (pa_cons (pv 2) pa_nil)) pa_nil))))) (fun _ _ _ _ _ => pg_name (i := 4) sc_Disk_crashes.nd rfl (Or.inl rfl)) (fun _ _ _ _ _ => pts_nil) (fun _ _ _ _ _ => (pe_op op_cat (pv 3) (pv 4))))))) (gss1_cons (gs1_for hx rfl (pi_list (pv 1)) (pg_name (i := 3) sc_Disk_crashes.nd rfl (Or.inl rfl)) (gss1_cons (gs1_yield hx (My.pe_cmK C_crashedk (hr.mono (by decide)) pass0 (pv 0) (pk_cons (pv 3) pk_nil))) gss1_nil)) gss1_nil))), fun yl M H Q h => ?_⟩
  obtain ⟨a, dx, b, s', q, D, bs, ss, ts, qs, Wc, rfl, hD, hQ, hb0, hb1, hz, hlt, hDl, nbD, nsD, nqD, hM, hW0, hWs, hyl, hfin⟩ := h
  obtain ⟨fa, fb, fs, fq, _, _, _⟩ := id hD
  have fc := T.cls
  have fn := T.nq
  show tG1cons _ _ _ _ _ _ [some (V.ref a), none, none, none, none] H
  dsimp only [tG1cons, tG1plain, GE1.at, gcxOf, cxOf]
  walk_at "go"
  intro p0 hp0
  have S0 := My.Same.new (o := .lst []) (Same.refl H) hp0
  have e0 : upd H p0 (.lst []) p0 = some (.lst []) := upd_same
  generalize upd H p0 (.lst []) = H0' at S0 e0 ⊢
  walk_at "go"
  intro p1 hp1
  have n1 : H p1 = none := S0.free hp1
  have S1 := My.Same.new (o := .lst [V.ref p0]) S0 hp1
  have e1 : upd H0' p1 (.lst [V.ref p0]) p1 = some (.lst [V.ref p0]) := upd_same
  have e01 : upd H0' p1 (.lst [V.ref p0]) p0 = some (.lst []) := by rw [upd_ne (ne_of_none e0 hp1)]; exact e0
  generalize upd H0' p1 (.lst [V.ref p0]) = H1 at S1 e1 e01 ⊢
  clear S0 e0 hp1
  obtain ⟨ga, gb, gs, gq, _, _, _⟩ := hD.same S1
  walk_at "go"
  rw [List.length_map]
  refine My.x_rng1E (by omega) (by omega) ?_
  rw [Int.toNat_natCast]
  refine My.for_runs (My.runs_rng 0 ts.length) (fun pre σ' H' => (∃ cu o2 o3 o4, σ' = [some (V.ref a), some (V.ref cu), o2, o3, o4] ∧ H cu = none ∧ ∃ us, H' cu = some (.lst (us.map V.ref)) ∧ (∀ u ∈ us, H u = none) ∧ Ls H' us (subsC pre.length)) ∧ Same H H') ⟨⟨p1, _, _, _, rfl, n1, [p0], e1, (fun u hu => by rw [List.mem_singleton.mp hu]; exact hp0), .cons e01 .nil⟩, S1⟩ (fun pre post σ' H' _ z => trivial) ?_ ?_
  · rintro pre x post σ' H3 v H4 hpre ⟨⟨cu, o2, o3, o4, rfl, ncu, us, gc, nus, L3⟩, S3⟩ ⟨rfl, hx', hlt', rfl⟩
    have ex : (0 + (x : Int)) = ((pre.length : Nat) : Int) := by rw [hx']; omega
    rw [ex]
    have hlen : (pre ++ [x]).length = pre.length + 1 := by rw [List.length_append]; rfl
    rw [hlen]
    generalize pre.length = k at hx' hlt' L3 ⊢
    have hpow : (subsC k).length ≤ 32 := by rw [subsC_len]; exact Nat.pow_le_pow_right (by omega) (by omega : k ≤ 5)
    walk_at "go"
    unfold tLc2
    walk_at "go"
    intro L hL
    refine runs_any (My.runs_list (K := K) (a := cu) V.ref us) (fun pre' H' => Same H4 H' ∧ ∃ ws, H' L = some (.lst (ws.map V.ref)) ∧ (∀ w ∈ ws, H w = none) ∧ Ls H' ws (fl k ((subsC k).take pre'.length))) ⟨My.Same.new (Same.refl H4) hL, [], upd_same, (fun w hw => nomatch hw), .nil⟩ (fun pre' post' H' _ z => SqL.of (z.1 _ _ gc)) ?_ ?_
    · rintro pre' u post' H5 v H6 hpre' ⟨S5, ws, g5, nws, L5⟩ ⟨rfl, rfl⟩
      obtain ⟨c, hc, hu⟩ := L3.at pre'.length u (by rw [hpre']; simp)
      simp only [List.map_cons, List.map_nil, wipe, List.set_cons_succ, List.set_cons_zero]
      walk_at "go"
      refine ⟨rfl, ?_⟩
      walk_at "go"
      intro e1 he1
      have S6 := My.Same.new (o := .lst []) S5 he1
      have l6 : upd H6 e1 (.lst []) L = some (.lst (ws.map V.ref)) := by rw [upd_ne (ne_of_none g5 he1)]; exact g5
      have L6 := L5.imp (H' := upd H6 e1 (.lst [])) fun w d _ e => by rw [upd_ne (ne_of_none e he1)]; exact e
      have e16 : upd H6 e1 (.lst []) e1 = some (.lst []) := upd_same
      have nLe1 : L ≠ e1 := ne_of_none g5 he1
      generalize upd H6 e1 (.lst []) = H7 at S6 l6 L6 e16 ⊢
      clear S5 g5 L5 he1
      walk_at "go"
      intro e2 he2
      have S7 := My.Same.new (o := .lst [V.int k]) S6 he2
      have l7 : upd H7 e2 (.lst [V.int k]) L = some (.lst (ws.map V.ref)) := by rw [upd_ne (ne_of_none l6 he2)]; exact l6
      have L7 := L6.imp (H' := upd H7 e2 (.lst [V.int k])) fun w d _ e => by rw [upd_ne (ne_of_none e he2)]; exact e
      have e17 : upd H7 e2 (.lst [V.int k]) e1 = some (.lst []) := by rw [upd_ne (ne_of_none e16 he2)]; exact e16
      have e27 : upd H7 e2 (.lst [V.int k]) e2 = some (.lst [V.int k]) := upd_same
      have nLe2 : L ≠ e2 := ne_of_none l6 he2
      generalize upd H7 e2 (.lst [V.int k]) = H8 at S7 l7 L7 e17 e27 ⊢
      clear S6 l6 L6 e16 he2
      walk_at "go"
      intro T' hT
      have S8 := My.Same.new (o := .tup [V.ref e1, V.ref e2]) S7 hT
      have l8 : upd H8 T' (.tup [V.ref e1, V.ref e2]) L = some (.lst (ws.map V.ref)) := by rw [upd_ne (ne_of_none l7 hT)]; exact l7
      have L8 := L7.imp (H' := upd H8 T' (.tup [V.ref e1, V.ref e2])) fun w d _ e => by rw [upd_ne (ne_of_none e hT)]; exact e
      have e18 : upd H8 T' (.tup [V.ref e1, V.ref e2]) e1 = some (.lst []) := by rw [upd_ne (ne_of_none e17 hT)]; exact e17
      have e28 : upd H8 T' (.tup [V.ref e1, V.ref e2]) e2 = some (.lst [V.int k]) := by rw [upd_ne (ne_of_none e27 hT)]; exact e27
      have T8 : upd H8 T' (.tup [V.ref e1, V.ref e2]) T' = some (.tup [V.ref e1, V.ref e2]) := upd_same
      have nLT : L ≠ T' := ne_of_none l7 hT
      generalize upd H8 T' (.tup [V.ref e1, V.ref e2]) = H9 at S8 l8 L8 e18 e28 T8 ⊢
      clear S7 l7 L7 e17 e27 hT
      walk_at "go"
      refine runs_any (My.runs_tup (K := K) (a := T') (fun p : List Int × Addr => V.ref p.2) [([], e1), ([(k : Int)], e2)]) (fun pre1 H' => Same H4 H' ∧ H' T' = some (.tup [V.ref e1, V.ref e2]) ∧ H' e1 = some (.lst []) ∧ H' e2 = some (.lst [V.int k]) ∧ ∃ vs, H' L = some (.lst (vs.map V.ref)) ∧ (∀ w ∈ vs, H w = none) ∧ Ls H' vs (fl k ((subsC k).take pre'.length) ++ pre1.map fun p => c ++ p.1))
        ⟨S8, T8, e18, e28, ws, l8, nws, by rw [List.map_nil, List.append_nil]; exact L8⟩ (fun pre1 post1 H' _ z => SqT.of z.2.1) ?_ ?_
      · rintro pre1 ⟨z, e⟩ post1 Ha v Hb hp1 ⟨Sa, Ta, e1a, e2a, vs, la, nvs, La⟩ ⟨rfl, rfl⟩
        have ze : Hb e = some (.lst (z.map V.int)) := by
          have hm : (z, e) ∈ [(([] : List Int), e1), ([(k : Int)], e2)] := by rw [hp1]; simp
          rcases List.mem_cons.mp hm with q | q
          · cases q; exact e1a
          · cases List.mem_singleton.mp q; exact e2a
        have hlv : vs.length ≤ 66 := by
          rw [La.len, List.length_append, fl_len, List.length_take, List.length_map]
          have := congrArg List.length hp1
          rw [List.length_append, List.length_cons] at this
          simp at this
          omega
        have hck := (subsC_ok k c (List.mem_of_getElem? hc)).1
        have hzl : z.length ≤ 1 := by
          have hm : (z, e) ∈ [(([] : List Int), e1), ([(k : Int)], e2)] := by rw [hp1]; simp
          rcases List.mem_cons.mp hm with q | q
          · cases q; simp
          · cases List.mem_singleton.mp q; simp
        walk_at "go"
        refine ⟨rfl, ?_⟩
        walk_at "go"
        simp only [List.set_cons_succ, List.set_cons_zero]
        walk_at "go"
        refine My.x_cat (Sa _ _ hu) ze (by rw [List.length_map, List.length_map, sizeLine_eq]; omega) fun p hp => ?_
        refine ⟨_, by rw [upd_ne (ne_of_none la hp)]; exact la, by rw [List.length_map, sizeLine_eq]; omega, ?_⟩
        have np : H p = none := S3.free (Sa.free hp)
        have pL : p ≠ L := (ne_of_none la hp).symm
        refine ⟨My.Same.mut (My.Same.new Sa hp) hL, by rw [upd_ne nLT.symm, upd_ne (ne_of_none Ta hp)]; exact Ta, by rw [upd_ne nLe1.symm, upd_ne (ne_of_none e1a hp)]; exact e1a, by rw [upd_ne nLe2.symm, upd_ne (ne_of_none e2a hp)]; exact e2a, vs ++ [p], by rw [upd_same, List.map_append]; rfl, fun w hw => ?_, ?_⟩
        · rcases List.mem_append.mp hw with hw | hw
          · exact nvs w hw
          · rw [List.mem_singleton.mp hw]; exact np
        · rw [List.map_append, ← List.append_assoc]
          refine Ls.snoc (La.imp fun w d hw e => ?_) (by rw [upd_ne pL, upd_same, List.map_append])
          rw [upd_ne (fun q => ?_), upd_ne (ne_of_none e hp)]
          · exact e
          · rw [q, la] at e
            have e : vs.map V.ref = d.map V.int := by injection e with e; injection e
            rw [ref_int e] at hw
            cases hw
      · rintro Ha ⟨Sa, Ta, e1a, e2a, vs, la, nvs, La⟩
        refine ⟨Sa, vs, la, nvs, ?_⟩
        rw [List.length_append, List.length_singleton, fl_snoc hc]
        simp only [List.map_cons, List.map_nil, List.append_nil] at La
        exact La
    · rintro H5 ⟨S5, ws, g5, nws, L5⟩
      rw [L3.len, List.take_length] at L5
      walk_at "go"
      exact ⟨⟨L, _, _, _, rfl, S3.free hL, ws, g5, nws, L5⟩, S3.trans S5⟩
  · rintro σ' H3 ⟨⟨cu, o2, o3, o4, rfl, ncu, us, gc, nus, L3⟩, S3⟩
    rw [List.length_range] at L3
    unfold tG1for
    walk_at "go"
    have cuD : cu ≠ D := (ne_of_none hDl ncu).symm
    refine gfor_runs (My.runs_list (K := K) (a := cu) V.ref us) (fun pre i σ H' => i = pre.length ∧ (∃ o2 o3 o4, σ = [some (V.ref a), some (V.ref cu), o2, o3, o4]) ∧ Bar D H H' ∧ H' cu = some (.lst (us.map V.ref)) ∧ Ls H' us (subsC ts.length) ∧ Wc pre.length H')
      ⟨rfl, ⟨_, _, _, rfl⟩, fun b o _ e => S3 _ _ e, gc, L3, hWs _ _ _ hW0 S3⟩ (fun pre post i σ H' _ z => SqL.of z.2.2.2.1) ?_ ?_
    · rintro pre u post i σ H5 v H6 hpre ⟨rfl, ⟨o2', o3', o4', rfl⟩, B5, gc5, L5, W5⟩ ⟨rfl, rfl⟩
      obtain ⟨c, hc, hu⟩ := L5.at pre.length u (by rw [hpre]; simp)
      obtain ⟨hc1, hc2⟩ := subsC_ok ts.length c (List.mem_of_getElem? hc)
      have aD : a ≠ D := fun e => by rw [e, hDl] at fa; cases fa
      have D5 : DkB K H6 a dx b s' q bs ss ts := ⟨B5 _ _ aD hD.ha, B5 _ _ nbD hD.hb, B5 _ _ nsD hD.hs, B5 _ _ nqD hD.hq, hD.nbs, hD.nbq, hD.nsq⟩
      have Q5 : Qs H6 ts qs := hQ.imp fun t x e => B5 _ _ (fun z => by rw [z, hDl] at e; cases e) e
      have ga5 := D5.ha
      walk_at "go"
      dsimp only [tG1cons, tG1yield, tG1nil]
      refine ⟨?_, ?_⟩
      · have h1 := congrArg List.length hpre
        rw [L5.len, List.length_append, List.length_cons] at h1
        omega
      refine ⟨_, rfl, a, dx, _, rfl, ga5, rfl, ?_⟩
      walk_at "go"
      refine ⟨rfl, a, dx, b, s', q, bs, ss, ts, qs, _, _, c, [], rfl, D5, Q5, hb0, hb1, by omega, hlt, ⟨_, rfl, .inl (SqL.of hu)⟩, ⟨_, rfl, .inr (T.et2 _)⟩, ⟨by omega, fun x hx => ⟨(hc2 x hx).1, by have := (hc2 x hx).2; omega⟩⟩, ⟨Nat.zero_le _, fun _ z => nomatch z⟩, fun a' dx' b' s2 q2 H7 na nb ns nq S7 D7 => ?_⟩
      refine hyl pre.length c a' dx' b' s2 q2 H7 _ hc (hWs _ _ _ W5 S7) D7 fun H8 B8 W8 => ?_
      refine ⟨by rw [List.length_append]; rfl, ⟨_, _, _, rfl⟩, fun b o hb e => B8 _ _ hb (S7 _ _ (B5 _ _ hb e)), B8 _ _ cuD (S7 _ _ gc5), L5.imp fun w d hw e => B8 _ _ (fun z => ?_) (S7 _ _ e), by rw [List.length_append]; exact W8⟩
      have := nus w hw
      rw [z, hDl] at this
      cases this
    · rintro i σ H5 ⟨rfl, _, _, _, L5, W5⟩
      rw [L5.len] at W5 ⊢
      exact hfin _ W5
end
end K01

end

section
local macro_rules | `(tactic| walk_at "ne") => `(tactic| first | assumption | (apply Ne.symm; assumption) | exact L2.ne_of_none (by assumption) (by assumption) | exact (L2.ne_of_none (by assumption) (by assumption)).symm)
local macro_rules | `(tactic| walk_at "hp") => `(tactic| first | assumption | exact L2.upd_same | (rw [L2.upd_ne (by walk_at "ne")]; walk_at "hp"))
local macro_rules | `(tactic| walk_at "sq") => `(tactic| first | assumption | exact L2.SqL.of (by walk_at "hp") | exact My.sq_new (by walk_at "sq") (by assumption))
local macro_rules | `(tactic| walk_at "sd") => `(tactic| first | decide | omega | (unfold L2.CDivN; omega) | (unfold L2.CMul; omega) | (unfold L2.CPow; omega))
local macro_rules | `(tactic| walk_at "sx1") => `(tactic| first | with_reducible refine My.x_seq ?_ | with_reducible refine My.x_asg ?_ | with_reducible refine My.x_ret ?_ | with_reducible refine My.x_next ?_ | with_reducible refine My.x_op ?_ | with_reducible refine My.x_c ?_ | with_reducible refine My.x_ifs ?_ | with_reducible refine My.x_test ?_ | with_reducible refine My.x_exbl ?_ | with_reducible refine My.x_cons ?_ | with_reducible refine My.x_nil ?_ | with_reducible refine My.x_cb ?_ | with_reducible refine My.x_drop ?_ | with_reducible refine My.x_par ?_ | with_reducible refine My.x_exp2 ?_ | with_reducible refine My.x_aug ?_ | with_reducible refine My.x_if ?_ | with_reducible refine My.x_tB ?_ | with_reducible refine My.x_and ?_ | with_reducible refine My.x_or ?_ | with_reducible refine My.x_not ?_ | with_reducible refine My.x_retn ?_ | with_reducible refine My.x_cont ?_ | with_reducible refine My.x_brk ?_ | with_reducible refine My.x_un ?_ | with_reducible refine My.x_tfor ?_ | with_reducible refine My.x_ilist ?_ | with_reducible refine My.x_rng1 ?_ | with_reducible refine My.x_rng2 ?_ | with_reducible refine My.x_r1 ?_ | with_reducible refine My.x_call ?_ | with_reducible refine My.x_sl ?_ | with_reducible refine My.x_part ?_ | with_reducible refine My.x_nopart ?_ | with_reducible refine My.x_ii0 ?_ | with_reducible refine My.x_yes ?_ | with_reducible refine My.x_andv ?_ | with_reducible refine My.x_orv ?_ | with_reducible refine My.x_notv ?_ | with_reducible refine My.x_iT ?_ | with_reducible refine My.x_iF ?_ | with_reducible refine My.x_chain ?_ | with_reducible refine My.x_exI ?_ | with_reducible refine My.x_wipe ?_ | with_reducible refine My.x_bm ?_ | with_reducible refine My.x_bm0 ?_ | with_reducible refine My.x_gsub ?_ | with_reducible refine My.x_int1 ?_ | with_reducible refine My.x_two ?_ | with_reducible refine My.x_lst ?_ | with_reducible refine My.x_tup ?_ | with_reducible refine My.x_revL ?_ | with_reducible refine My.x_dput ?_ | with_reducible refine My.x_dget ?_ | with_reducible refine My.x_dnew ?_ | with_reducible refine My.x_dc ?_ | with_reducible refine My.x_lc ?_ | with_reducible refine My.x_ienum ?_ | with_reducible refine My.x_gcons ?_ | with_reducible refine My.x_gnil ?_ | with_reducible refine My.x_v0 ?_ | with_reducible refine My.x_v1 ?_ | with_reducible refine My.x_v2 ?_ | with_reducible refine My.x_v3 ?_ | with_reducible refine My.x_v4 ?_ | with_reducible refine My.x_v5 ?_ | with_reducible refine My.x_v6 ?_ | with_reducible refine My.x_v7 ?_ | with_reducible refine My.x_v8 ?_ | with_reducible refine My.x_v9 ?_ | with_reducible refine My.x_v10 ?_ | with_reducible refine My.x_v11 ?_ | with_reducible refine My.x_v12 ?_ | with_reducible refine My.x_v13 ?_ | with_reducible refine My.x_v14 ?_ | with_reducible refine My.x_v15 ?_ | with_reducible refine My.x_v16 ?_ | with_reducible refine My.x_v17 ?_ | with_reducible refine My.x_v18 ?_ | with_reducible refine My.x_v19 ?_ | with_reducible refine My.x_v20 ?_ | with_reducible refine My.x_v21 ?_ | with_reducible refine My.x_v22 ?_ | with_reducible refine My.x_v23 ?_ | with_reducible refine My.x_v24 ?_ | with_reducible refine My.x_v25 ?_ | with_reducible refine My.x_g0 ?_ | with_reducible refine My.x_g1 ?_ | with_reducible refine My.x_g2 ?_ | with_reducible refine My.x_g3 ?_ | with_reducible refine My.x_g4 ?_ | with_reducible refine My.x_g5 ?_ | with_reducible refine My.x_g6 ?_ | with_reducible refine My.x_g7 ?_ | with_reducible refine My.x_g8 ?_ | with_reducible refine My.x_g9 ?_ | with_reducible refine My.x_g10 ?_ | with_reducible refine My.x_g11 ?_ | with_reducible refine My.x_g12 ?_ | with_reducible refine My.x_g13 ?_ | with_reducible refine My.x_g14 ?_ | with_reducible refine My.x_g15 ?_ | with_reducible refine My.x_g16 ?_ | with_reducible refine My.x_g17 ?_ | with_reducible refine My.x_g18 ?_ | with_reducible refine My.x_g19 ?_ | with_reducible refine My.x_g20 ?_ | with_reducible refine My.x_g21 ?_ | with_reducible refine My.x_g22 ?_ | with_reducible refine My.x_g23 ?_ | with_reducible refine My.x_g24 ?_ | with_reducible refine My.x_g25 ?_)
local macro_rules | `(tactic| walk_at "sx") => `(tactic| repeat (walk_at "sx1"))
local macro_rules | `(tactic| walk_at "ln") => `(tactic| first | assumption | exact Nat.le_of_ble_eq_true rfl | (simp only [List.length_append, List.length_map, List.length_cons, List.length_nil]; simp only [PySem.sizeLine]; omega))
local macro_rules | `(tactic| walk_at "st") => `(tactic| first | assumption | exact L2.SqT.of (by walk_at "hp"))
local macro_rules | `(tactic| walk_at "go1") => `(tactic| first | walk_at "sx1" | ((with_reducible refine' My.x_ixL ?x0 ?x1 ?x2); (case x0 => walk_at "sq"); (case x1 => exact rfl)) | ((with_reducible refine' My.x_ixT ?x0 ?x1 ?x2); (case x0 => walk_at "st"); (case x1 => exact rfl)) | ((with_reducible refine' My.x_i ?x0 ?x1); (case x0 => walk_at "sd")) | ((with_reducible refine' My.x_setL ?x0 ?x1 ?x2); (case x0 => walk_at "hp"); (case x1 => exact rfl)) | ((with_reducible refine' My.x_len ?x0 ?x1); (case x0 => walk_at "sq")) | ((with_reducible refine' My.x_lenT ?x0 ?x1); (case x0 => walk_at "st")) | ((with_reducible refine' My.x_lenD ?x0 ?x1); (case x0 => walk_at "hp")) | ((with_reducible refine' My.x_append ?x0 ?x1 ?x2); (case x0 => walk_at "hp"); (case x1 => walk_at "ln")) | ((with_reducible refine' My.x_tyL ?x0 ?x1); (case x0 => walk_at "hp")) | ((with_reducible refine' My.x_ilistE ?x0 ?x1); (case x0 => walk_at "sq")) | ((with_reducible refine' My.x_ienumE ?x0 ?x1); (case x0 => walk_at "sq")) | ((with_reducible refine' My.x_sortI ?x0 ?x1); (case x0 => walk_at "sq")) | ((with_reducible refine' My.x_slL ?x0 ?x1); (case x0 => walk_at "sq")) | ((with_reducible refine' My.x_revL2 ?x0 ?x1); (case x0 => walk_at "sq")) | ((with_reducible refine' My.x_eq ?x0 ?x1); (case x0 => exact rfl)) | ((with_reducible refine' My.x_ne ?x0 ?x1); (case x0 => exact rfl)) | ((with_reducible refine' My.x_dputI ?x0 ?x1 ?x2); (case x0 => walk_at "hp"); (case x1 => walk_at "ln")) | ((with_reducible refine' My.x_dputS ?x0 ?x1 ?x2); (case x0 => walk_at "hp"); (case x1 => walk_at "ln")) | ((with_reducible refine' My.x_seqof ?x0 ?x1); (case x0 => walk_at "sq")) | ((with_reducible refine' My.x_gtup ?x0 ?x1 ?x2); (case x0 => walk_at "st"); (case x1 => exact rfl)) | ((with_reducible refine' My.x_mem1 ?x0 ?x1); (case x0 => walk_at "ln")))
local macro_rules | `(tactic| walk_at "go") => `(tactic| repeat (walk_at "go1"))
local macro_rules | `(tactic| walk_at "sx1") => `(tactic| first | with_reducible refine My.x_gx ?_ | with_reducible refine My.x_gxK ?_ | with_reducible refine My.x_gi ?_ | with_reducible refine My.x_gst ?_ | with_reducible refine My.x_xg ?_ | with_reducible refine My.x_nF ?_ | with_reducible refine My.x_nT ?_ | with_reducible refine My.x_fld ?_ | with_reducible refine My.x_sfld ?_ | with_reducible refine My.x_meth ?_ | with_reducible refine My.x_make ?_ | with_reducible refine My.x_din ?_ | with_reducible refine My.x_dnin ?_ | with_reducible refine My.x_ikeys ?_ | with_reducible refine My.x_itup ?_ | with_reducible refine My.x_mkO ?_ | with_reducible refine My.x_vei ?_ | with_reducible refine My.x_ost ?_ | with_reducible refine My.x_nF ?_ | with_reducible refine My.x_nT ?_)
local macro_rules | `(tactic| walk_at "go1") => `(tactic| first | ((with_reducible refine' My.x_fldE ?x0 ?x1 ?x2 ?x3 ?x4); (case x0 => walk_at "hp"); (case x1 => assumption); (case x2 => assumption); (case x3 => exact rfl)) | ((with_reducible refine' My.x_sfldE ?x0 ?x1 ?x2 ?x3 ?x4 ?x5); (case x0 => walk_at "hp"); (case x1 => assumption); (case x2 => assumption); (case x3 => decide); (case x4 => exact rfl)) | ((with_reducible refine' My.x_methE ?x0 ?x1 ?x2); (case x0 => walk_at "hp"); (case x1 => exact rfl)) | ((with_reducible refine' My.x_itupE ?x0 ?x1); (case x0 => walk_at "st")))
namespace K01
open PySem PySem.Spec PyProof.Rows L2
theorem hu100 {k : Nat} {A : Around} (hr : Room k A) : A.units + 100 < cLine := by have := hr.un; omega
/-- what is asked of a disk's other side -/
inductive TyD (K : PySem.W.Frag) : V → Hp → Prop where
  | int (i : Int) (H : Hp) : TyD K (.int i) H
  | lst {a : Addr} {xs : List V} {H : Hp} (e : H a = some (.lst xs)) : TyD K (.ref a) H
  | dsk {a dx : Addr} {fs : List (Str × V)} {H : Hp} (e : H a = some (.ins (CD K) dx fs)) : TyD K (.ref a) H
theorem tyD {X : Cx} (hI : PySem.W.subIn X.K (.type "int") (.ref (CD X.K)) = some false) (hL : PySem.W.subIn X.K (.type "list") (.ref (CD X.K)) = some false) (pins : List (Addr × Obj)) (s : Shared) (σ : L2.St) (H : Hp) (y : V) (u : Value) (I : Inv X pins σ H s) (r : RelV y u) (h : TyD X.K y H) :
    ∃ tb, PySem.W.Looks (model X.prog X.w) s.heap (typeOf u) tb ∧ PySem.W.notFirst X.K (CD X.K) tb = true := by
  cases h with
  | int i =>
    obtain ⟨t, rfl⟩ := r
    exact ⟨.type "int", fun A Q E s k q => wpAny_pure q, by unfold PySem.W.notFirst; rw [hI]; rfl⟩
  | lst e =>
    cases r
    obtain ⟨_, its, n, _, ho⟩ := I.hok _ _ e
    exact ⟨.type "list", fun A Q E s k q => wpAny_typeOf_ref (k _ _ ho) q, by unfold PySem.W.notFirst; rw [hL]; rfl⟩
  | dsk e =>
    cases r
    obtain ⟨od, J⟩ := My.ins_at I e
    exact ⟨_, J.type, by unfold PySem.W.notFirst; simp⟩
section
variable {P : Program} {w : World} {K : PySem.W.Frag} {mg : Str → Option Value} {base : Heap} {t1 t2 : Tok}
theorem ok_draw (T : Tx K mg t1 t2) {fd : FuncData} (F : Fd K d_law_draw fd) : FnOk P w K mg base CX0 1 (He.fAd K d_law_draw.at_) fd ["_law_pool_here", "_law_many"] My.sp_draw := by
  refine F.ok sc_law_draw (fun vs H Q E h => ?_) (fun cdv A outer s H vs Q E hr h => ?_)
  · obtain ⟨p, n, c, s, rfl, _⟩ := h
    rfl
  · obtain ⟨p, n, c, s, rfl, n0, n1, hp, s0, s1, k⟩ := h
    refine ⟨_, PSs.nox ((pss_cons (ps_if (pt_cmpR op_gt (pe_ix ix_list (pv 0) pe_int (fun _ _ => rfl)) pe_int (nomark _))
  (pss_cons (ps_set (i := 2) sc_law_draw.nd rfl (Or.inl rfl) (pe_op op_modN (pe_callTy call_int1 (by rfl) T.n_int (by decide +kernel) (pa_cons (pe_ix ix_list (pv 0) pe_int (fun _ _ => rfl)) pa_nil)) (pv 1)))
  (pss_cons (ps_asg (pe_op op_fdivN (pe_ix ix_list (pv 0) pe_int (fun _ _ => rfl)) (pv 1)) (pg_sub (pv 0) pe_int set_list))
  (pss_one (ps_ret (pv 2)))))
  pss_nil)
  (pss_cons (ps_asg (pe_op op_modN (pe_callTy call_int1 (by rfl) T.n_int (by decide +kernel) (pa_cons (pe_op op_add (pe_op op_mul (pe_ix ix_list (pv 0) pe_int (fun _ _ => rfl)) pe_int) pe_int) pa_nil)) pe_int) (pg_sub (pv 0) pe_int set_list))
  (pss_one (ps_ret (pe_op op_modN (pe_op op_fdivN (pe_op op_modN (pe_callTy call_int1 (by rfl) T.n_int (by decide +kernel) (pa_cons (pe_op op_mul (pe_ix ix_list (pv 0) pe_int (fun _ _ => rfl)) (pe_ix ix_list (pv 0) pe_int (fun _ _ => rfl))) pa_nil)) pe_int) pe_int) (pv 1))))))), ?_⟩
    refine My.x_start (σ := [some (V.ref p), some (V.int n), none]) rfl ?_
    try dsimp only [cxOf, Cx.nox]
    walk_at "go"
    refine My.x_dec (fun hc => ?_) (fun hc => ?_)
    · walk_at "go"
      exact k _ _ _ (Int.fmod_nonneg_of_pos _ n0) (Int.fmod_lt_of_pos _ n0) s0 s1
    · walk_at "go"
      have hm0 := Int.fmod_nonneg_of_pos (s * 48271 + 11) (show (0 : Int) < 2147483647 by decide)
      have hm1 := Int.fmod_lt_of_pos (s * 48271 + 11) (show (0 : Int) < 2147483647 by decide)
      refine My.x_i (.inl ⟨by omega, by omega⟩) ?_
      walk_at "go"
      exact k _ _ _ (Int.fmod_nonneg_of_pos _ n0) (Int.fmod_lt_of_pos _ n0) hm0 hm1
theorem atI_in {ns : List Int} {k : Int} (h0 : 0 ≤ k) (h : k < (ns.length : Int)) : ∃ x, atI (ns.map V.int) k = some (.int x) := by
  obtain ⟨j, rfl⟩ := Int.eq_ofNat_of_zero_le h0
  have hj : j < ns.length := by omega
  exact ⟨ns[j], atI_nat (by rw [List.getElem?_map, List.getElem?_eq_getElem hj]; rfl)⟩
theorem ok_pool (T : Tx K mg t1 t2) {fd : FuncData} (F : Fd K d_law_pool fd) : FnOk P w K mg base CX0 1 (He.fAd K d_law_pool.at_) fd ["_law_script", "_law_k"] (My.sp_pool K) := by
  refine F.ok sc_law_pool (fun vs H Q E h => ?_) (fun cdv A outer s H vs Q E hr h => ?_)
  · obtain ⟨a, ns, k, rfl, _⟩ := h
    rfl
  · obtain ⟨a, ns, k, rfl, hS, k0, k1, q⟩ := h
    refine ⟨_, PSs.nox ((pss_cons (ps_set (i := 2) sc_law_pool.nd rfl (Or.inl rfl) pe_int)
  (pss_cons (ps_if (pt_cmpR op_lt (pv 1) (pe_callB call_len_seq (by rfl) T.n_len (by decide +kernel) (pa_cons (pv 0) pa_nil)) (nomark _))
  (pss_one (ps_set (i := 2) sc_law_pool.nd rfl (Or.inl rfl) (pe_ix ix_list (pv 0) (pv 1) (fun _ _ => rfl))))
  pss_nil)
  (pss_cons (ps_set (i := 3) sc_law_pool.nd rfl (Or.inl rfl) (pe_op op_modN (pe_op op_pow (pe_op op_add (pe_op op_add (pe_op op_modN (pe_callTy call_int1 (by rfl) T.n_int (by decide +kernel) (pa_cons (pv 2) pa_nil)) pe_int) (pe_op op_mul (pe_op op_mul pe_int (pv 1)) (pv 1))) pe_int) pe_int) pe_int))
  (pss_cons (ps_if (pt_cmpR op_lt (pv 2) (pe_op op_pow pe_int pe_int) (nomark _))
  (pss_one (ps_set (i := 2) sc_law_pool.nd rfl (Or.inl rfl) pe_int))
  pss_nil)
  (pss_one (ps_ret (pe_lst (pa_cons (pv 2) (pa_cons (pv 3) pa_nil)))))))))), ?_⟩
    refine My.x_start (σ := [some (V.ref a), some (V.int k), none, none]) rfl ?_
    try dsimp only [cxOf, Cx.nox]
    have key : ∀ c : Int, 0 ≤ c.fmod 2147483629 ∧ c.fmod 2147483629 < 2147483629 := fun c => ⟨Int.fmod_nonneg_of_pos _ (by decide), Int.fmod_lt_of_pos _ (by decide)⟩
    have kk0 : 0 ≤ 7919 * k * k := Int.mul_nonneg (by omega) k0
    have kk1 : 7919 * k * k ≤ 7919 * 1000 * 1000 := Int.mul_le_mul (by omega) (by omega) k0 (by decide)
    have ends : ∀ c z : Int, 0 ≤ z → z < 2147483647 → ∀ p, H p = none → Q (.ref p) (upd H p (.lst [.int c, .int z])) := fun c z h0 h1 p hp => q p c z hp h0 h1
    have m0 : ∀ z : Int, 0 ≤ z.fmod 2147483647 := fun z => Int.fmod_nonneg_of_pos _ (by decide)
    have m1 : ∀ z : Int, z.fmod 2147483647 < 2147483647 := fun z => Int.fmod_lt_of_pos _ (by decide)
    walk_at "go"
    refine My.x_dec (fun hc => ?_) (fun hc => ?_)
    · rw [List.length_map] at hc
      obtain ⟨x, hx⟩ := atI_in k0 hc
      walk_at "go"
      refine My.x_ixL (by walk_at "sq") hx ?_
      have hk := key x
      walk_at "go"
      refine My.x_dec (fun hc => ?_) (fun hc => ?_)
      · walk_at "go"
        exact ends _ _ (m0 _) (m1 _)
      · walk_at "go"
        exact ends _ _ (m0 _) (m1 _)
    · have hk := key 0
      walk_at "go"
      refine My.x_dec (fun hc => ?_) (fun hc => ?_)
      · walk_at "go"
        exact ends _ _ (m0 _) (m1 _)
      · walk_at "go"
        exact ends _ _ (m0 _) (m1 _)
def sp_choose : Sp := fun vs H Q _ => ∃ (p a : Addr) (xs : List V), vs = [.ref p, .ref a] ∧ My.PoolAt H p ∧ H a = some (.lst xs) ∧ a ≠ p ∧ 0 < xs.length ∧ xs.length < 1000 ∧ ∀ (x : V) (H' : Hp), x ∈ xs → My.PoolAt H' p → My.But p H H' → Q x H'
theorem atI_mem {xs : List V} {d : Int} (h0 : 0 ≤ d) (h1 : d < (xs.length : Int)) : ∃ x, atI xs d = some x ∧ x ∈ xs := by
  obtain ⟨j, rfl⟩ := Int.eq_ofNat_of_zero_le h0
  have hj : j < xs.length := by omega
  exact ⟨xs[j], atI_nat (List.getElem?_eq_getElem hj), List.getElem_mem hj⟩
theorem ok_choose (T : Tx K mg t1 t2) {fd : FuncData} (F : Fd K d_law_choose fd) (C_law_draw : My.Cl P w K mg base "_law_draw" ["_law_pool_here", "_law_many"] 1 My.sp_draw) : FnOk P w K mg base CX0 2 (He.fAd K d_law_choose.at_) fd ["_law_pool_here", "_law_items"] sp_choose := by
  refine F.ok sc_law_choose (fun vs H Q E h => ?_) (fun cdv A outer s H vs Q E hr h => ?_)
  · obtain ⟨p, a, xs, rfl, _⟩ := h
    rfl
  · obtain ⟨p, a, xs, rfl, hP, ha, hne, h0, h1, q⟩ := h
    refine ⟨_, PSs.nox ((pss_one (ps_ret (pe_ix ix_list (pv 1) (My.pe_cl C_law_draw (hr.mono (by decide)) rfl (pa_cons (pv 0) (pa_cons (pe_callB call_len_seq (by rfl) T.n_len (by decide +kernel) (pa_cons (pv 1) pa_nil)) pa_nil))) (fun _ _ => rfl))))), ?_⟩
    refine My.x_start (σ := [some (V.ref p), some (V.ref a)]) rfl ?_
    try dsimp only [cxOf, Cx.nox]
    walk_at "go"
    refine My.x_draw hP (by omega) (by omega) fun d H1 d0 d1 P1 B1 => ?_
    obtain ⟨x, hx, hm⟩ := atI_mem d0 d1
    refine My.x_ixL (SqL.of (B1.at ha hne)) hx ?_
    exact q x H1 hm P1 B1
end
/-! ### the plain part -/
/-- the law's order of the choices -/
def subsL : Nat → List (List Int)
  | 0 => [[]]
  | k + 1 => subsL k ++ (subsL k).map fun c => c ++ [(k : Int)]
theorem fl_perm (k : Nat) : ∀ cs : List (List Int), (fl k cs).Perm (cs ++ cs.map fun c => c ++ [(k : Int)])
  | [] => .nil
  | c :: r => by
    show (c :: (c ++ [(k : Int)]) :: fl k r).Perm (c :: (r ++ (c ++ [(k : Int)]) :: r.map fun c => c ++ [(k : Int)]))
    refine .cons _ ?_
    exact (List.Perm.cons _ (fl_perm k r)).trans List.perm_middle.symm
theorem subs_perm : ∀ n : Nat, (subsC n).Perm (subsL n)
  | 0 => .refl _
  | n + 1 => by
    unfold subsC subsL
    exact (fl_perm n _).trans ((subs_perm n).append ((subs_perm n).map _))
theorem subsL_ok (n : Nat) (c : List Int) (h : c ∈ subsL n) : c.length ≤ n ∧ ∀ x ∈ c, 0 ≤ x ∧ x < (n : Int) := subsC_ok n c ((subs_perm n).mem_iff.mpr h)
theorem subsL_len (n : Nat) : (subsL n).length = 2 ^ n := by rw [← (subs_perm n).length_eq, subsC_len]
/-- all writes kept -/
def allI (n : Nat) : List Int := (List.range n).map fun i : Nat => (i : Int)
theorem mem_allI {n k : Nat} (h : k < n) : (k : Int) ∈ allI n := List.mem_map.mpr ⟨k, List.mem_range.mpr h, rfl⟩
theorem allI_ok {n : Nat} {x : Int} (h : x ∈ allI n) : 0 ≤ x ∧ x < (n : Int) := by
  obtain ⟨k, hk, rfl⟩ := List.mem_map.mp h
  have := List.mem_range.mp hk
  omega
theorem allI_len (n : Nat) : (allI n).length = n := by unfold allI; rw [List.length_map, List.length_range]
theorem aftN_all {xs : List V} {qs : List (Nat × V)} : ∀ k : Nat, k ≤ qs.length → aftN xs qs (allI qs.length) [] k = wr xs (qs.take k)
  | 0, _ => rfl
  | k + 1, h => by
    have hk : k < qs.length := by omega
    have e : qs[k]? = some qs[k] := List.getElem?_eq_getElem hk
    rw [aftN_succ, aftN_all k (by omega), wr_snoc e]
    unfold stA
    rw [e]
    simp [mem_allI hk]
theorem aft_all (xs : List V) (qs : List (Nat × V)) : aft xs qs (allI qs.length) [] = wr xs qs := by
  rw [aft, aftN_all _ (Nat.le_refl _), List.take_length]
theorem aft_none (xs : List V) (qs : List (Nat × V)) : aft xs qs [] [] = xs := by
  have : ∀ k, aftN xs qs [] [] k = xs := fun k => by
    induction k with
    | zero => rfl
    | succ k ih =>
      rw [aftN_succ, ih]
      unfold stA
      cases qs[k]? <;> simp
  exact this _
theorem wr_append (xs : List V) (qs : List (Nat × V)) (p : Nat × V) : wr xs (qs ++ [p]) = (wr xs qs).set p.1 p.2 := by unfold wr; rw [List.foldl_append]; rfl
theorem wr_lose (n : Nat) : ∀ (qs : List (Nat × V)) (xs : List V), wr (xs.set n .non) (qs.filter fun p => decide (p.1 ≠ n)) = (wr xs qs).set n .non
  | [], xs => rfl
  | p :: r, xs => by
    show _ = (wr (xs.set p.1 p.2) r).set n .non
    rw [← wr_lose n r (xs.set p.1 p.2)]
    by_cases h : p.1 = n
    · rw [List.filter_cons_of_neg (by simp [h]), h, List.set_set]
    · rw [List.filter_cons_of_pos (by simp [h])]
      show wr ((xs.set n .non).set p.1 p.2) _ = _
      rw [List.set_comm _ _ (fun e => h e.symm)]
theorem cells_wr : ∀ {qs : List (Nat × V)} {xs : List V}, Cells xs → (∀ p ∈ qs, Cell p.2) → Cells (wr xs qs)
  | [], _, h, _ => h
  | p :: r, xs, h, hq => cells_wr (qs := r) (cells_set h (hq p List.mem_cons_self)) fun q hm => hq q (List.mem_cons_of_mem _ hm)
end K01

end

section
namespace K01
open PySem PySem.Spec PyProof.Rows L2
theorem strOk_app (a b : Str) : PyData.strOk (a ++ b) = (PyData.strOk a && PyData.strOk b) := by
  unfold PyData.strOk
  show (a.cps ++ b.cps).all _ = _
  rw [Array.all_append]
theorem textFrom_ok : ∀ (ts : List Str) (k : Nat) (acc : Str), PyData.strOk acc = true → (∀ t ∈ ts, PyData.strOk t = true) → PyData.strOk (textFrom k acc ts) = true
  | [], _, _, h, _ => h
  | t :: r, k, acc, h, ht => by
    unfold textFrom
    refine textFrom_ok r (k + 1) _ ?_ fun u hu => ht u (List.mem_cons_of_mem _ hu)
    rw [strOk_app, strOk_app, h, ht t List.mem_cons_self]
    split
    · decide +kernel
    · decide +kernel
theorem fold_ok {f : Nat → List Nat} : ∀ (l : List Nat) (acc : Array Nat), (∀ c ∈ acc, c < 0x110000) → (∀ c ∈ l, ∀ d ∈ f c, d < 0x110000) → ∀ c ∈ l.foldl (fun out c => out ++ (f c).toArray) acc, c < 0x110000
  | [], _, h, _ => h
  | x :: r, acc, h, hl => by
    refine fold_ok r _ (fun c hc => ?_) fun c hc => hl c (List.mem_cons_of_mem _ hc)
    rcases Array.mem_append.mp hc with hc | hc
    · exact h c hc
    · exact hl x List.mem_cons_self c (by simpa using hc)
theorem quote_or (x : Str) : reprQuote x = 39 ∨ reprQuote x = 34 := by
  unfold reprQuote
  split
  · first | exact .inl rfl | exact .inr rfl
  · first | exact .inl rfl | exact .inr rfl
theorem strOk_repr (x : Str) (h : ∀ c ∈ x.cps.toList, ∀ q, q = 39 ∨ q = 34 → ∀ d ∈ Builtin.Str.reprChar q c, d < 0x110000) : PyData.strOk (reprText x) = true := by
  have hq := quote_or x
  unfold PyData.strOk reprText
  rw [Array.all_eq_true']
  generalize reprQuote x = qq at hq
  intro c hc
  rw [decide_eq_true_eq]
  rcases Array.mem_push.mp hc with hc | hc
  · rw [← Array.foldl_toList] at hc
    refine fold_ok (f := Builtin.Str.reprChar qq) _ _ (fun c hc => ?_) (fun c hc d hd => h c hc qq hq d hd) c hc
    have : c = qq := by simpa using hc
    rcases hq with rfl | rfl <;> omega
  · rcases hq with rfl | rfl <;> omega
theorem til_mem {c : Nat} (h : c ∈ tilde.cps.toList) : c = 126 := List.eq_of_mem_replicate (show c ∈ List.replicate 4000 126 from h)
theorem strOk_til : PyData.strOk (reprText tilde) = true := by
  refine strOk_repr _ fun c hc q hq d hd => ?_
  rw [til_mem hc] at hd
  have key : ∀ q ∈ [39, 34], ∀ d ∈ Builtin.Str.reprChar q 126, d < 0x110000 := by decide +kernel
  exact key q (by rcases hq with rfl | rfl <;> simp) d hd
theorem strOk_shown : ∀ z ∈ T4, PyData.strOk (reprText z) = true := by
  intro z hz
  simp only [T4, List.mem_cons, List.not_mem_nil, or_false] at hz
  rcases hz with rfl | rfl | rfl | rfl
  · decide +kernel
  · decide +kernel
  · decide +kernel
  · exact strOk_til
theorem shownAll_ok : ∀ {xs : List V}, Cells xs → ∀ t ∈ PyData.shownAll (xs.map dat), PyData.strOk t = true
  | [], _, t, h => by simp [PyData.shownAll] at h
  | v :: r, h, t, ht => by
    rw [List.map_cons, PyData.shownAll] at ht
    rcases List.mem_cons.mp ht with rfl | ht
    · rcases h v List.mem_cons_self with rfl | ⟨z, hz, rfl⟩
      · show PyData.strOk (PyData.shown .none) = true
        rw [PyData.shown]
        decide +kernel
      · show PyData.strOk (PyData.shown (.str z)) = true
        rw [PyData.shown]
        exact strOk_shown z hz
    · exact shownAll_ok (fun x hx => h x (List.mem_cons_of_mem _ hx)) t ht
/-- what a list of blocks shows as -/
def shw (xs : List V) : Str := (PyData.list (xs.map dat)).shown
theorem strOk_shw {xs : List V} (h : Cells xs) : PyData.strOk (shw xs) = true := by
  unfold shw
  rw [PyData.shown, listText, strOk_app, textFrom_ok _ _ _ (by decide +kernel) (shownAll_ok h)]
  decide +kernel
theorem dp_strs {K : PySem.W.Frag} {H : Hp} : ∀ xs : List Str, DpAll K H (xs.map V.str) (xs.map PyData.str)
  | [] => .nil
  | x :: r => .cons (.str x) (dp_strs r)
theorem eqv_refl_strs : ∀ xs : List Str, PyData.eqvAll (xs.map PyData.str) (xs.map PyData.str) = true
  | [] => by simp [PyData.eqvAll]
  | x :: r => by rw [List.map_cons, PyData.eqvAll, eqv_refl_strs r]; simp [PyData.eqv]
theorem shaped_strs {xs : List Str} (h : ∀ x ∈ xs, PyData.strOk x = true) : SeqAt.shaped (.list (xs.map PyData.str)) = true := by
  unfold SeqAt.shaped
  rw [PyData.canLay0, canLayAll_strs', List.all_eq_true.mpr h, PyData.depth, depthAll_strs']
  rfl
theorem x_neStr {K : PySem.W.Frag} {H : Hp} {Q : VK} {a b : Addr} {xs ys : List Str} (s : SqL K H a (xs.map V.str)) (t : SqL K H b (ys.map V.str)) (hx : ∀ x ∈ xs, PyData.strOk x = true) (e : xs = ys) (h : Q (.bl false) H) : rNeD K (.ref a) (.ref b) H Q := by
  subst e
  exact ⟨_, _, .lst s (dp_strs xs), .lst t (dp_strs xs), shaped_strs hx, shaped_strs hx, by rw [PyData.eqv, eqv_refl_strs]; exact h⟩
end K01

end

section
local macro_rules | `(tactic| walk_at "ne") => `(tactic| first | assumption | (apply Ne.symm; assumption) | exact L2.ne_of_none (by assumption) (by assumption) | exact (L2.ne_of_none (by assumption) (by assumption)).symm)
local macro_rules | `(tactic| walk_at "hp") => `(tactic| first | assumption | exact L2.upd_same | (rw [L2.upd_ne (by walk_at "ne")]; walk_at "hp"))
local macro_rules | `(tactic| walk_at "sq") => `(tactic| first | assumption | exact L2.SqL.of (by walk_at "hp") | exact My.sq_new (by walk_at "sq") (by assumption))
local macro_rules | `(tactic| walk_at "sd") => `(tactic| first | decide | omega | (unfold L2.CDivN; omega) | (unfold L2.CMul; omega) | (unfold L2.CPow; omega))
local macro_rules | `(tactic| walk_at "sx1") => `(tactic| first | with_reducible refine My.x_seq ?_ | with_reducible refine My.x_asg ?_ | with_reducible refine My.x_ret ?_ | with_reducible refine My.x_next ?_ | with_reducible refine My.x_op ?_ | with_reducible refine My.x_c ?_ | with_reducible refine My.x_ifs ?_ | with_reducible refine My.x_test ?_ | with_reducible refine My.x_exbl ?_ | with_reducible refine My.x_cons ?_ | with_reducible refine My.x_nil ?_ | with_reducible refine My.x_cb ?_ | with_reducible refine My.x_drop ?_ | with_reducible refine My.x_par ?_ | with_reducible refine My.x_exp2 ?_ | with_reducible refine My.x_aug ?_ | with_reducible refine My.x_if ?_ | with_reducible refine My.x_tB ?_ | with_reducible refine My.x_and ?_ | with_reducible refine My.x_or ?_ | with_reducible refine My.x_not ?_ | with_reducible refine My.x_retn ?_ | with_reducible refine My.x_cont ?_ | with_reducible refine My.x_brk ?_ | with_reducible refine My.x_un ?_ | with_reducible refine My.x_tfor ?_ | with_reducible refine My.x_ilist ?_ | with_reducible refine My.x_rng1 ?_ | with_reducible refine My.x_rng2 ?_ | with_reducible refine My.x_r1 ?_ | with_reducible refine My.x_call ?_ | with_reducible refine My.x_sl ?_ | with_reducible refine My.x_part ?_ | with_reducible refine My.x_nopart ?_ | with_reducible refine My.x_ii0 ?_ | with_reducible refine My.x_yes ?_ | with_reducible refine My.x_andv ?_ | with_reducible refine My.x_orv ?_ | with_reducible refine My.x_notv ?_ | with_reducible refine My.x_iT ?_ | with_reducible refine My.x_iF ?_ | with_reducible refine My.x_chain ?_ | with_reducible refine My.x_exI ?_ | with_reducible refine My.x_wipe ?_ | with_reducible refine My.x_bm ?_ | with_reducible refine My.x_bm0 ?_ | with_reducible refine My.x_gsub ?_ | with_reducible refine My.x_int1 ?_ | with_reducible refine My.x_two ?_ | with_reducible refine My.x_lst ?_ | with_reducible refine My.x_tup ?_ | with_reducible refine My.x_revL ?_ | with_reducible refine My.x_dput ?_ | with_reducible refine My.x_dget ?_ | with_reducible refine My.x_dnew ?_ | with_reducible refine My.x_dc ?_ | with_reducible refine My.x_lc ?_ | with_reducible refine My.x_ienum ?_ | with_reducible refine My.x_gcons ?_ | with_reducible refine My.x_gnil ?_ | with_reducible refine My.x_v0 ?_ | with_reducible refine My.x_v1 ?_ | with_reducible refine My.x_v2 ?_ | with_reducible refine My.x_v3 ?_ | with_reducible refine My.x_v4 ?_ | with_reducible refine My.x_v5 ?_ | with_reducible refine My.x_v6 ?_ | with_reducible refine My.x_v7 ?_ | with_reducible refine My.x_v8 ?_ | with_reducible refine My.x_v9 ?_ | with_reducible refine My.x_v10 ?_ | with_reducible refine My.x_v11 ?_ | with_reducible refine My.x_v12 ?_ | with_reducible refine My.x_v13 ?_ | with_reducible refine My.x_v14 ?_ | with_reducible refine My.x_v15 ?_ | with_reducible refine My.x_v16 ?_ | with_reducible refine My.x_v17 ?_ | with_reducible refine My.x_v18 ?_ | with_reducible refine My.x_v19 ?_ | with_reducible refine My.x_v20 ?_ | with_reducible refine My.x_v21 ?_ | with_reducible refine My.x_v22 ?_ | with_reducible refine My.x_v23 ?_ | with_reducible refine My.x_v24 ?_ | with_reducible refine My.x_v25 ?_ | with_reducible refine My.x_g0 ?_ | with_reducible refine My.x_g1 ?_ | with_reducible refine My.x_g2 ?_ | with_reducible refine My.x_g3 ?_ | with_reducible refine My.x_g4 ?_ | with_reducible refine My.x_g5 ?_ | with_reducible refine My.x_g6 ?_ | with_reducible refine My.x_g7 ?_ | with_reducible refine My.x_g8 ?_ | with_reducible refine My.x_g9 ?_ | with_reducible refine My.x_g10 ?_ | with_reducible refine My.x_g11 ?_ | with_reducible refine My.x_g12 ?_ | with_reducible refine My.x_g13 ?_ | with_reducible refine My.x_g14 ?_ | with_reducible refine My.x_g15 ?_ | with_reducible refine My.x_g16 ?_ | with_reducible refine My.x_g17 ?_ | with_reducible refine My.x_g18 ?_ | with_reducible refine My.x_g19 ?_ | with_reducible refine My.x_g20 ?_ | with_reducible refine My.x_g21 ?_ | with_reducible refine My.x_g22 ?_ | with_reducible refine My.x_g23 ?_ | with_reducible refine My.x_g24 ?_ | with_reducible refine My.x_g25 ?_)
local macro_rules | `(tactic| walk_at "sx") => `(tactic| repeat (walk_at "sx1"))
local macro_rules | `(tactic| walk_at "ln") => `(tactic| first | assumption | exact Nat.le_of_ble_eq_true rfl | (simp only [List.length_append, List.length_map, List.length_cons, List.length_nil]; simp only [PySem.sizeLine]; omega))
local macro_rules | `(tactic| walk_at "st") => `(tactic| first | assumption | exact L2.SqT.of (by walk_at "hp"))
local macro_rules | `(tactic| walk_at "go1") => `(tactic| first | walk_at "sx1" | ((with_reducible refine' My.x_ixL ?x0 ?x1 ?x2); (case x0 => walk_at "sq"); (case x1 => exact rfl)) | ((with_reducible refine' My.x_ixT ?x0 ?x1 ?x2); (case x0 => walk_at "st"); (case x1 => exact rfl)) | ((with_reducible refine' My.x_i ?x0 ?x1); (case x0 => walk_at "sd")) | ((with_reducible refine' My.x_setL ?x0 ?x1 ?x2); (case x0 => walk_at "hp"); (case x1 => exact rfl)) | ((with_reducible refine' My.x_len ?x0 ?x1); (case x0 => walk_at "sq")) | ((with_reducible refine' My.x_lenT ?x0 ?x1); (case x0 => walk_at "st")) | ((with_reducible refine' My.x_lenD ?x0 ?x1); (case x0 => walk_at "hp")) | ((with_reducible refine' My.x_append ?x0 ?x1 ?x2); (case x0 => walk_at "hp"); (case x1 => walk_at "ln")) | ((with_reducible refine' My.x_tyL ?x0 ?x1); (case x0 => walk_at "hp")) | ((with_reducible refine' My.x_ilistE ?x0 ?x1); (case x0 => walk_at "sq")) | ((with_reducible refine' My.x_ienumE ?x0 ?x1); (case x0 => walk_at "sq")) | ((with_reducible refine' My.x_sortI ?x0 ?x1); (case x0 => walk_at "sq")) | ((with_reducible refine' My.x_slL ?x0 ?x1); (case x0 => walk_at "sq")) | ((with_reducible refine' My.x_revL2 ?x0 ?x1); (case x0 => walk_at "sq")) | ((with_reducible refine' My.x_eq ?x0 ?x1); (case x0 => exact rfl)) | ((with_reducible refine' My.x_ne ?x0 ?x1); (case x0 => exact rfl)) | ((with_reducible refine' My.x_dputI ?x0 ?x1 ?x2); (case x0 => walk_at "hp"); (case x1 => walk_at "ln")) | ((with_reducible refine' My.x_dputS ?x0 ?x1 ?x2); (case x0 => walk_at "hp"); (case x1 => walk_at "ln")) | ((with_reducible refine' My.x_seqof ?x0 ?x1); (case x0 => walk_at "sq")) | ((with_reducible refine' My.x_gtup ?x0 ?x1 ?x2); (case x0 => walk_at "st"); (case x1 => exact rfl)) | ((with_reducible refine' My.x_mem1 ?x0 ?x1); (case x0 => walk_at "ln")))
local macro_rules | `(tactic| walk_at "go") => `(tactic| repeat (walk_at "go1"))
local macro_rules | `(tactic| walk_at "sx1") => `(tactic| first | with_reducible refine My.x_gx ?_ | with_reducible refine My.x_gxK ?_ | with_reducible refine My.x_gi ?_ | with_reducible refine My.x_gst ?_ | with_reducible refine My.x_xg ?_ | with_reducible refine My.x_nF ?_ | with_reducible refine My.x_nT ?_ | with_reducible refine My.x_fld ?_ | with_reducible refine My.x_sfld ?_ | with_reducible refine My.x_meth ?_ | with_reducible refine My.x_make ?_ | with_reducible refine My.x_din ?_ | with_reducible refine My.x_dnin ?_ | with_reducible refine My.x_ikeys ?_ | with_reducible refine My.x_itup ?_ | with_reducible refine My.x_mkO ?_ | with_reducible refine My.x_vei ?_ | with_reducible refine My.x_ost ?_ | with_reducible refine My.x_nF ?_ | with_reducible refine My.x_nT ?_)
local macro_rules | `(tactic| walk_at "go1") => `(tactic| first | ((with_reducible refine' My.x_fldE ?x0 ?x1 ?x2 ?x3 ?x4); (case x0 => walk_at "hp"); (case x1 => assumption); (case x2 => assumption); (case x3 => exact rfl)) | ((with_reducible refine' My.x_sfldE ?x0 ?x1 ?x2 ?x3 ?x4 ?x5); (case x0 => walk_at "hp"); (case x1 => assumption); (case x2 => assumption); (case x3 => decide); (case x4 => exact rfl)) | ((with_reducible refine' My.x_methE ?x0 ?x1 ?x2); (case x0 => walk_at "hp"); (case x1 => exact rfl)) | ((with_reducible refine' My.x_itupE ?x0 ?x1); (case x0 => walk_at "st")))
namespace K01
open PySem PySem.Spec PyProof.Rows L2
theorem rising_pw : ∀ (p : Str) (l : List Str), risingS p l = true → (p :: l).Pairwise (fun a b => a.cps.toList ≤ b.cps.toList)
  | p, [], _ => by simp
  | p, x :: r, h => by
    unfold risingS at h
    obtain ⟨h1, h2⟩ := Bool.and_eq_true_iff.mp h
    have ih := rising_pw x r h2
    have hx : p.cps.toList ≤ x.cps.toList := by
      rw [ltCps_eq] at h1
      simpa using h1
    refine List.pairwise_cons.mpr ⟨fun b hb => ?_, ih⟩
    rcases List.mem_cons.mp hb with rfl | hb
    · exact hx
    · exact List.le_trans hx (List.rel_of_pairwise_cons ih hb)
theorem sorted_pw : ∀ (l : List Str), sortedS l = true → l.Pairwise (fun a b => a.cps.toList ≤ b.cps.toList)
  | [], _ => .nil
  | x :: r, h => rising_pw x r h
theorem str_anti {a b : Str} (h1 : a.cps.toList ≤ b.cps.toList) (h2 : b.cps.toList ≤ a.cps.toList) : a = b := by
  have e := List.le_antisymm h1 h2
  obtain ⟨⟨x⟩⟩ := a
  obtain ⟨⟨y⟩⟩ := b
  have e : x = y := e
  rw [e]
theorem sorted_eq {xs ys : List Str} (p : xs.Perm ys) (h1 : sortedS xs = true) (h2 : sortedS ys = true) : xs = ys :=
  List.Perm.eq_of_pairwise (fun _ _ _ _ => str_anti) (sorted_pw xs h1) (sorted_pw ys h2) p
theorem short_cells : ∀ {xs : List V}, Cells xs → PyData.leavesShortAll 8 (xs.map dat) = true
  | [], _ => by simp [PyData.leavesShortAll]
  | v :: r, h => by
    have ih := short_cells fun x hx => h x (List.mem_cons_of_mem _ hx)
    rcases h v List.mem_cons_self with rfl | ⟨z, hz, rfl⟩
    · simp [PyData.leavesShortAll, PyData.leavesShort, dat, ih]
    · have hz2 := strOk_T4 z hz
      unfold PyData.strOk at hz2
      rw [List.map_cons, PyData.leavesShortAll, ih, Bool.and_true]
      show (z.cps.toList.all fun c => decide (c < 16 ^ 8)) = true
      rw [← Array.all_toList] at hz2
      rw [List.all_eq_true] at hz2 ⊢
      intro c hc
      have := hz2 c hc
      simp only [decide_eq_true_eq] at this ⊢
      exact Nat.lt_trans this (by decide)
theorem weight_cells : ∀ {xs : List V}, Cells xs → PyData.weightAll (xs.map dat) ≤ 4200 * xs.length + 1
  | [], _ => by simp [PyData.weightAll]
  | v :: r, h => by
    have ih := weight_cells fun x hx => h x (List.mem_cons_of_mem _ hx)
    rw [List.map_cons, PyData.weightAll]
    have : PyData.weight (dat v) ≤ 4100 := by
      rcases h v List.mem_cons_self with rfl | ⟨z, hz, rfl⟩
      · simp [PyData.weight, dat]
      · have hl := (Bool.and_eq_true_iff.mp (okT_T4 z hz)).1
        simp only [decide_eq_true_eq] at hl
        have hz3 : z.length = z.cps.size := rfl
        simp only [PyData.weight, dat]
        omega
    rw [List.length_cons]
    omega
theorem showable_cells : ∀ {xs : List V}, Cells xs → PyData.showableAll (xs.map dat) = true
  | [], _ => by simp [PyData.showableAll]
  | v :: r, h => by
    have ih := showable_cells fun x hx => h x (List.mem_cons_of_mem _ hx)
    rcases h v List.mem_cons_self with rfl | ⟨z, hz, rfl⟩
    · simp [PyData.showableAll, PyData.showable, dat, ih]
    · simp [PyData.showableAll, PyData.showable, dat, ih]
theorem x_repC {K : PySem.W.Frag} {H : Hp} {Q : VK} {a : Addr} {xs : List V} (s : SqL K H a xs) (c : Cells xs) (l : xs.length ≤ 200) (h : Q (.str (shw xs)) H) : My.rRepr K [.ref a] H Q := by
  refine ⟨_, .list (xs.map dat), rfl, .lst s (dp_cells c), ?_, ?_, ?_, ?_, h⟩
  · simp [PyData.showable, showable_cells c]
  · simp [PyData.canLay0, lay_cells c]
  · simp [PyData.depth, depth_cells c]
  · refine PyData.shown_fits (B := 8) (by decide) (by decide) ?_ ?_
    · simp [PyData.leavesShort, short_cells c]
    · have := weight_cells c
      simp only [PyData.weight]
      omega
/-- the things of the law's call: the pool p, the disk a, safe sf, the queue qu -/
structure Lw (K : PySem.W.Frag) (H : Hp) (p a dx b s q sf qu : Addr) (bs ss : List V) (ts ts2 : List Addr) (qs : List (Nat × V)) : Prop where
  P : My.PoolAt H p
  D : DkB K H a dx b s q bs ss ts
  Q : Qs H ts qs
  sf : H sf = some (.lst bs)
  qu : H qu = some (.lst (ts2.map V.ref))
  Q2 : Qs H ts2 qs
structure Lc (p b s q sf qu : Addr) (bs ss : List V) (ts ts2 : List Addr) (qs : List (Nat × V)) : Prop where
  l : ss.length = bs.length
  l1 : 1 ≤ bs.length
  l2 : bs.length ≤ 100
  t : ts.length ≤ 20
  cb : Cells bs
  cs : Cells ss
  cq : ∀ x ∈ qs, Cell x.2
  lt : ∀ x ∈ qs, x.1 < bs.length
  nb : b ≠ p
  ns : s ≠ p
  nq : q ≠ p
  nf : sf ≠ p
  nu : qu ≠ p
section
variable {K : PySem.W.Frag} {H H' : Hp} {p a dx b s q sf qu : Addr} {bs ss : List V} {ts ts2 : List Addr} {qs : List (Nat × V)}
theorem Lw.same (L : Lw K H p a dx b s q sf qu bs ss ts ts2 qs) (S : Same H H') : Lw K H' p a dx b s q sf qu bs ss ts ts2 qs := ⟨L.P.sees S, L.D.same S, L.Q.same S, S _ _ L.sf, S _ _ L.qu, L.Q2.same S⟩
theorem Lw.bar (L : Lw K H p a dx b s q sf qu bs ss ts ts2 qs) (c : Lc p b s q sf qu bs ss ts ts2 qs) (B : Bar p H H') (P : My.PoolAt H' p) : Lw K H' p a dx b s q sf qu bs ss ts ts2 qs := by
  obtain ⟨x, y, e, _⟩ := L.P
  refine ⟨P, ⟨B _ _ (fun z => ?_) L.D.ha, B _ _ c.nb L.D.hb, B _ _ c.ns L.D.hs, B _ _ c.nq L.D.hq, L.D.nbs, L.D.nbq, L.D.nsq⟩, L.Q.imp fun t u h => B _ _ (fun z => ?_) h, B _ _ c.nf L.sf, B _ _ c.nu L.qu, L.Q2.imp fun t u h => B _ _ (fun z => ?_) h⟩
  · have := L.D.ha; rw [z, e] at this; cases this
  · rw [z, e] at h; cases h
  · rw [z, e] at h; cases h
theorem Bar.same (B : Bar p H H') {H2 : Hp} (S : Same H' H2) : Bar p H H2 := fun x o n e => S _ _ (B x o n e)
theorem Bar.trans (B : Bar p H H') {H2 : Hp} (S : Bar p H' H2) : Bar p H H2 := fun x o n e => S _ _ n (B x o n e)
end
theorem rgV_all (n : Nat) : rgV 0 (n : Int) = (allI n).map V.int := by
  unfold rgV allI
  rw [List.map_map]
  simp
theorem call_reprK {X : Cx} {K : PySem.W.Frag} (hK : X.K = K) (hg0 : X.A.guards = some []) (hu : X.A.units + 100 < cLine) : CallR X (.builtin "repr") (My.rRepr K) := by
  subst hK
  exact My.call_reprD hg0 hu
theorem x_neS {K : PySem.W.Frag} {H : Hp} {Q : VK} {a b : Addr} {xs ys : List V} (s : SqL K H a xs) (t : SqL K H b ys) (cx : Cells xs) (e : xs = ys) (h : Q (.bl false) H) : rNeD K (.ref a) (.ref b) H Q :=
  x_neC s t cx (by rw [← e]; exact cx) (by rw [decide_eq_true e]; exact h)
/-- the numbers of a list that a draw of 0 picks -/
theorem lc_draw {K : PySem.W.Frag} {p sp : Addr} {m : Int} {n : Nat} {x1 x2 x3 o5 x6 x7 x8 x9 x10 x11 x12 x13 x14 : Option V} {H : Hp} {Q : Addr → Hp → Prop} (hP : My.PoolAt H p) (hs : H sp = some (.lst ((allI n).map V.int))) (sp_p : sp ≠ p) (hn : n ≤ 20) (m0 : 0 < m) (m1 : m < 1000)
    (h : ∀ (D : Addr) (H' : Hp) (is : List Int), (∀ i ∈ is, i ∈ allI n) → is.length ≤ n → H D = none → My.PoolAt H' p → Bar p H H' → H' D = some (.lst (is.map V.int)) → Q D H') :
    ∀ D : Addr, H D = none → ∃ W : Nat → Nat → Hp → Prop, (∃ k, W 0 k (upd H D (.lst []))) ∧ ∀ i k H, W i k H → ((Itl K sp).stop i H ∧ Q D H) ∨ ((Itl K sp).go i H ∧ ∃ Nx : Hp → Prop, (∀ H', Nx H' → ∃ k', k' < k ∧ W (i + 1) k' H') ∧
      ∀ x H', (Itl K sp).yld i H x H' → gName 5 x (wipe [some (V.ref p), x1, x2, x3, some (V.ref sp), o5, x6, x7, x8, x9, x10, x11, x12, x13, x14] (List.map (fun x => x.snd) [(("_law_place" : Str), 5)])) H' fun σ2 H2 =>
        wipe σ2 (List.map (fun x => x.snd) [(("_law_place" : Str), 5)]) = wipe [some (V.ref p), x1, x2, x3, some (V.ref sp), o5, x6, x7, x8, x9, x10, x11, x12, x13, x14] (List.map (fun x => x.snd) [(("_law_place" : Str), 5)]) ∧
        tTest (tOp rEq (tCall My.sp_draw [] E0 (tCons (tVar 0) (tCons (tC (V.int m)) tNil))) (tC (V.int 0))) σ2 H2 fun b H3 => if b = true then tVar 5 σ2 H3 fun y H4 => ∃ acc, H4 D = some (.lst acc) ∧ acc.length < sizeLine ∧ Nx (upd H4 D (.lst (acc ++ [y]))) else Nx H3) := by
  obtain ⟨z1, z2, eP, _⟩ := id hP
  intro D hD
  refine My.lc_runs (My.runs_list (K := K) (a := sp) V.int (allI n)) (fun pre H' => My.PoolAt H' p ∧ Bar p H H' ∧ ∃ is, H' D = some (.lst (is.map V.int)) ∧ is.length ≤ pre.length ∧ ∀ i ∈ is, i ∈ allI n) ⟨hP.new hD, fun x o _ e => My.Same.new (Same.refl H) hD _ _ e, [], upd_same, Nat.le_refl _, fun i z => nomatch z⟩ (fun pre post H' _ z => SqL.of (z.2.1 _ _ sp_p hs)) ?_ ?_
  · rintro pre i post H3 v H4 hpre ⟨P3, B3, is, e3, l3, i3⟩ ⟨rfl, rfl⟩
    have hi : i ∈ allI n := by rw [hpre]; simp
    have hlen : pre.length < 20 := by
      have := congrArg List.length hpre
      rw [allI_len, List.length_append, List.length_cons] at this
      omega
    have Dp : D ≠ p := fun e => by rw [e, eP] at hD; cases hD
    simp only [List.map_cons, List.map_nil, wipe, List.set_cons_succ, List.set_cons_zero]
    walk_at "go"
    refine ⟨rfl, ?_⟩
    walk_at "go"
    refine My.x_draw P3 m0 (by omega) fun d H5 d0 d1 P5 B5 => ?_
    have e5 := B5.at e3 Dp
    have B6 : Bar p H H5 := fun x o n e => (B5 x n).trans (B3 x o n e)
    walk_at "go"
    by_cases hd : d = 0
    · subst hd
      simp only [decide_true]
      walk_at "go"
      refine ⟨_, rfl, _, e5, by rw [List.length_map, sizeLine_eq]; omega, P5.mut Dp.symm, fun x o n e => ?_, is ++ [i], by rw [upd_same, List.map_append]; rfl, by rw [List.length_append, List.length_append]; simp; omega, fun j hj => ?_⟩
      · rw [upd_ne (ne_of_none e hD)]; exact B6 x o n e
      · rcases List.mem_append.mp hj with hj | hj
        · exact i3 j hj
        · rw [List.mem_singleton.mp hj]; exact hi
    · have e : decide (V.int d = V.int 0) = false := decide_eq_false fun z => by injection z with z; exact hd z
      rw [e]
      walk_at "go"
      exact ⟨P5, B6, is, e5, by rw [List.length_append]; omega, i3⟩
  · rintro H3 ⟨P3, B3, is, e3, l3, i3⟩
    rw [allI_len] at l3
    exact h D H3 is i3 l3 hD P3 B3 e3
theorem paired_append {α β : Type} {F : α → β → Prop} : ∀ {a c : List α} {b d : List β}, Paired F a b → Paired F c d → Paired F (a ++ c) (b ++ d)
  | _, _, _, _, .nil, h => h
  | _, _, _, _, .cons h1 h2, h => .cons h1 (paired_append h2 h)
/-- what disks hold, at fs -/
def Hs (bs : List V) (qs : List (Nat × V)) (H : Hp) (fs : List Addr) (cs : List (List Int)) : Prop := Paired (fun f c => H f = some (.lst (aft bs qs c []))) fs cs
theorem Hs.imp {bs : List V} {qs : List (Nat × V)} {H H' : Hp} {us : List Addr} {cs : List (List Int)} (h : Hs bs qs H us cs) (k : ∀ u o, u ∈ us → H u = some o → H' u = some o) : Hs bs qs H' us cs := by
  unfold Hs at h ⊢
  induction h with
  | nil => exact .nil
  | cons h1 _ ih => exact .cons (k _ _ List.mem_cons_self h1) (ih fun u c hu => k u c (List.mem_cons_of_mem _ hu))
theorem Hs.same {bs : List V} {qs : List (Nat × V)} {H H' : Hp} {us : List Addr} {cs : List (List Int)} (h : Hs bs qs H us cs) (S : Same H H') : Hs bs qs H' us cs := h.imp fun _ _ _ e => S _ _ e
theorem Hs.snoc {bs : List V} {qs : List (Nat × V)} {H : Hp} {us : List Addr} {cs : List (List Int)} {u : Addr} {c : List Int} (h : Hs bs qs H us cs) (e : H u = some (.lst (aft bs qs c []))) : Hs bs qs H (us ++ [u]) (cs ++ [c]) := by
  unfold Hs at h ⊢
  induction h with
  | nil => exact .cons e .nil
  | cons h1 _ ih => exact .cons h1 ih
theorem Hs.at {bs : List V} {qs : List (Nat × V)} {H : Hp} {us : List Addr} {cs : List (List Int)} (h : Hs bs qs H us cs) : ∀ (k : Nat) (u : Addr), us[k]? = some u → ∃ c, cs[k]? = some c ∧ H u = some (.lst (aft bs qs c [])) := by
  unfold Hs at h
  induction h with
  | nil => intro k u e; cases e
  | cons h1 h2 ih =>
    intro k u e
    cases k with
    | zero => cases e; exact ⟨_, rfl, h1⟩
    | succ k => exact ih k u e
theorem Hs.len {bs : List V} {qs : List (Nat × V)} {H : Hp} {us : List Addr} {cs : List (List Int)} (h : Hs bs qs H us cs) : us.length = cs.length := Paired.length h
theorem allI_at {n k : Nat} {x : Int} {pre post : List Int} (h : allI n = pre ++ x :: post) (hk : pre.length = k) : x = (k : Int) ∧ k < n := by
  have e : (allI n)[k]? = some x := by rw [h, ← hk]; simp
  have hl : k < n := by
    have := congrArg List.length h
    rw [allI_len, List.length_append, List.length_cons] at this
    omega
  unfold allI at e
  rw [List.getElem?_map, List.getElem?_range hl] at e
  exact ⟨(Option.some.inj e).symm, hl⟩
/-- the shown forms of what stands at the first of fs -/
theorem lc_shown {K : PySem.W.Frag} {l : Addr} {fs : List Addr} {cs : List (List Int)} {bs : List V} {qs : List (Nat × V)} {σ : L2.St} {H : Hp} {Q : Addr → Hp → Prop} (hl : H l = some (.lst (fs.map V.ref))) (hs : Hs bs qs H fs cs) (cb : Cells bs) (cq : ∀ x ∈ qs, Cell x.2) (lb : bs.length ≤ 200) (lc : cs.length ≤ 64) (h14 : σ.length = 15)
    (h : ∀ (D : Addr) (H' : Hp), H D = none → Same H H' → H' D = some (.lst ((cs.map fun c => shw (aft bs qs c [])).map V.str)) → Q D H') :
    ∀ D : Addr, H D = none → ∃ W : Nat → Nat → Hp → Prop, (∃ k, W 0 k (upd H D (.lst []))) ∧ ∀ i k H, W i k H → ((Itl K l).stop i H ∧ Q D H) ∨ ((Itl K l).go i H ∧ ∃ Nx : Hp → Prop, (∀ H', Nx H' → ∃ k', k' < k ∧ W (i + 1) k' H') ∧
      ∀ x H', (Itl K l).yld i H x H' → gName 14 x (wipe σ (List.map (fun x => x.snd) [(("_law_one" : Str), 14)])) H' fun σ2 H2 =>
        wipe σ2 (List.map (fun x => x.snd) [(("_law_one" : Str), 14)]) = wipe σ (List.map (fun x => x.snd) [(("_law_one" : Str), 14)]) ∧
        tYes σ2 H2 fun b H3 => if b = true then tCB (My.rRepr K) (tCons (tVar 14) tNil) σ2 H3 fun y H4 => ∃ acc, H4 D = some (.lst acc) ∧ acc.length < sizeLine ∧ Nx (upd H4 D (.lst (acc ++ [y]))) else Nx H3) := by
  intro D hD
  refine My.lc_runs (My.runs_list (K := K) (a := l) V.ref fs) (fun pre H' => Same H H' ∧ H' D = some (.lst (((cs.take pre.length).map fun c => shw (aft bs qs c [])).map V.str))) ⟨My.Same.new (Same.refl H) hD, upd_same⟩ (fun pre post H' _ z => SqL.of (z.1 _ _ hl)) ?_ ?_
  · rintro pre u post H3 v H4 hpre ⟨S3, e3⟩ ⟨rfl, rfl⟩
    obtain ⟨c, hc, hu⟩ := hs.at pre.length u (by rw [hpre]; simp)
    simp only [List.map_cons, List.map_nil, wipe]
    refine ⟨?_, ?_⟩
    · rw [List.set_set, List.set_set]
    show tYes _ _ _
    walk_at "go"
    refine ⟨V.ref u, by rw [List.getElem?_set_self (by rw [List.length_set]; omega)], ?_⟩
    walk_at "go"
    refine x_repC (SqL.of (S3 _ _ hu)) (cells_aftN cb cq _) (by rw [aftN_len]; exact lb) ?_
    refine ⟨_, e3, by rw [List.length_map, List.length_map, List.length_take, sizeLine_eq]; omega, My.Same.mut S3 hD, ?_⟩
    rw [upd_same, List.length_append, List.length_singleton, List.take_add_one, hc, List.map_append, List.map_append]
    rfl
  · rintro H3 ⟨S3, e3⟩
    rw [hs.len, List.take_length] at e3
    exact h D H3 hD S3 e3
def sp_losses (K : PySem.W.Frag) : Sp := fun vs H Q _ => ∃ (p a dx b s q sf qu : Addr) (bs ss : List V) (ts ts2 : List Addr) (qs : List (Nat × V)), vs = [.ref p, .ref a, .ref sf, .ref qu] ∧ Lw K H p a dx b s q sf qu bs ss ts ts2 qs ∧ Lc p b s q sf qu bs ss ts ts2 qs ∧
  ∀ H', My.PoolAt H' p → Bar p H H' → Q (.bl true) H'
section
variable {P : Program} {w : World} {K : PySem.W.Frag} {mg : Str → Option Value} {base : Heap} {t1 t2 : Tok}
theorem ok_losses (T : Tx K mg t1 t2) {fd : FuncData} (F : Fd K d_law_check_losses fd) (C_law_draw : My.Cl P w K mg base "_law_draw" ["_law_pool_here", "_law_many"] 1 My.sp_draw)
    (C_law_held : My.Cl P w K mg base "_law_held" ["_law_disk"] 6 (sp_held K)) (C_law_after : My.Cl P w K mg base "_law_after" ["_law_safe", "_law_queue", "_law_stay", "_law_rip"] 1 (sp_after K))
    (P_pending : Pr P w K mg base "Disk" "pending" ["self"] 1 (sp_pend K)) (C_copy : My.Cm P w K mg base CX0 "Disk" "copy" ["self"] 7 (sp_copy K)) (S_eq : My.Spc P w K mg base CX0 (CD K) "__eq__" ["self", "other"] 1 (sp_eq K))
    (C_crashed : My.CmK P w K mg base CX0 "Disk" "crashed" ["self", "kept", "torn"] 6 (sp_crashed K) [] (g0 K)) (C_crashedt : My.CmK P w K mg base CX0 "Disk" "crashed" ["self", "kept", "torn"] 6 (sp_crashed K) ["torn"] (gt K))
    (C_crashedkt : My.CmK P w K mg base CX0 "Disk" "crashed" ["self", "kept", "torn"] 6 (sp_crashed K) ["kept", "torn"] gkt) (C_crashes : Cg P w K mg base "Disk" "crashes" 8 (sp_crashes K)) :
    My.FnG P w K mg base CX0 11 (He.fAd K d_law_check_losses.at_) fd ["_law_pool_here", "_law_disk", "_law_safe", "_law_queue"] (sp_losses K) := by
  refine My.FunD.okG F sc_law_check_losses (fun vs H Q E h => ?_) (fun cdv A outer s H vs Q E hg hr h => ?_)
  · obtain ⟨p, a, dx, b, s, q, sf, qu, bs, ss, ts, ts2, qs, rfl, _⟩ := h
    rfl
  · obtain ⟨p, a, dx, b, s', q, sf, qu, bs, ss, ts, ts2, qs, rfl, W, C, h⟩ := h
    have hg0 := hg
    refine ⟨_, PSs.nox ((pss_cons (ps_set (i := 4) sc_law_check_losses.nd rfl (Or.inl rfl) (pe_listRg rfl (by rfl) T.n_list (prg_1 (by rfl) T.n_range (pe_callB call_len_seq (by rfl) T.n_len (by decide +kernel) (pa_cons (pv 3) pa_nil)))))
  (pss_cons (ps_setLc (i := 6) (own := [("_law_place", 5)]) (g := gName 5)  rfl sc_law_check_losses.nd rfl rfl (sw_true rfl rfl rfl (by decide +kernel)) (pi_list (pv 4)) (blkOk_by (own := [("_law_place", 5)]) (N := ["_law_pool_here", "_law_disk", "_law_safe", "_law_queue", "_law_spots", "_law_place", "_law_stay", "_law_rip", "_law_other", "_law_copy", "_law_found", "_law_chosen", "_law_due", "_law_some", "_law_one"]) (sc := defScope s_law_check_losses) (by decide +kernel)) (fun _ _ _ _ _ => pg_name (i := 5) sc_law_check_losses.nd rfl (Or.inl rfl)) (fun _ _ _ _ _ => pts_one (pt_cmpR op_eq (My.pe_cl C_law_draw (hr.mono (by decide)) rfl (pa_cons (pv 0) (pa_cons pe_int pa_nil))) pe_int (nomark _))) (fun _ _ _ _ _ => (pv 5)))
  (pss_cons (ps_setLc (i := 7) (own := [("_law_place", 5)]) (g := gName 5)  rfl sc_law_check_losses.nd rfl rfl (sw_true rfl rfl rfl (by decide +kernel)) (pi_list (pv 4)) (blkOk_by (own := [("_law_place", 5)]) (N := ["_law_pool_here", "_law_disk", "_law_safe", "_law_queue", "_law_spots", "_law_place", "_law_stay", "_law_rip", "_law_other", "_law_copy", "_law_found", "_law_chosen", "_law_due", "_law_some", "_law_one"]) (sc := defScope s_law_check_losses) (by decide +kernel)) (fun _ _ _ _ _ => pg_name (i := 5) sc_law_check_losses.nd rfl (Or.inl rfl)) (fun _ _ _ _ _ => pts_one (pt_cmpR op_eq (My.pe_cl C_law_draw (hr.mono (by decide)) rfl (pa_cons (pv 0) (pa_cons pe_int pa_nil))) pe_int (nomark _))) (fun _ _ _ _ _ => (pv 5)))
  (pss_cons (ps_set (i := 8) sc_law_check_losses.nd rfl (Or.inl rfl) (My.pe_cmK C_crashedkt (hr.mono (by decide)) pass0 (pv 1) (pk_cons (pv 6) (pk_cons (pe_callTy call_tuple_of (by rfl) T.n_tuple (by decide +kernel) (pa_cons (pv 7) pa_nil)) pk_nil))))
  (pss_cons (ps_if (pt_cmpR (op_neD hr.units) (My.pe_cl C_law_held (hr.mono (by decide)) rfl (pa_cons (pv 8) pa_nil)) (My.pe_cl C_law_after (hr.mono (by decide)) rfl (pa_cons (pv 2) (pa_cons (pv 3) (pa_cons (pv 6) (pa_cons (pv 7) pa_nil))))) (nomark _))
  (pss_one (ps_ret pe_bl))
  pss_nil)
  (pss_cons (ps_if (pt_cmpR (op_neD hr.units) (pe_pr P_pending (hr.mono (by decide)) (pv 8) (by rfl)) (pe_lst pa_nil) (nomark _))
  (pss_one (ps_ret pe_bl))
  pss_nil)
  (pss_cons (ps_if (pt_cmpR (op_neD hr.units) (My.pe_cl C_law_held (hr.mono (by decide)) rfl (pa_cons (My.pe_cmK0 C_crashed (hr.mono (by decide)) pass0 (pv 1)) pa_nil)) (pv 2) (nomark _))
  (pss_one (ps_ret pe_bl))
  pss_nil)
  (pss_cons (ps_if (pt_cmpR (op_neD hr.units) (My.pe_cl C_law_held (hr.mono (by decide)) rfl (pa_cons (My.pe_cmK C_crashedt (hr.mono (by decide)) pass0 (pv 1) (pk_cons (pv 4) pk_nil)) pa_nil)) (My.pe_cl C_law_after (hr.mono (by decide)) rfl (pa_cons (pv 2) (pa_cons (pv 3) (pa_cons (pe_lst pa_nil) (pa_cons (pv 4) pa_nil))))) (nomark _))
  (pss_one (ps_ret pe_bl))
  pss_nil)
  (pss_cons (ps_set (i := 9) sc_law_check_losses.nd rfl (Or.inl rfl) (My.pe_cm0 C_copy (hr.mono (by decide)) pass0 (pv 1)))
  (pss_cons (ps_if (PW.pt (pw_or (pt_cmpR (My.op_neO S_eq (hr.mono (by decide)) pass0 T.dob T.dne (tyD T.sI T.sL)) (pv 9) (pv 1) (nomark _)) (pw_or1 (pt_cmpR (op_neD hr.units) (pe_pr P_pending (hr.mono (by decide)) (pv 9) (by rfl)) (pe_pr P_pending (hr.mono (by decide)) (pv 1) (by rfl)) (nomark _)))))
  (pss_one (ps_ret pe_bl))
  pss_nil)
  (pss_cons (ps_if (pt_cmpR (op_neD hr.units) (My.pe_cl C_law_held (hr.mono (by decide)) rfl (pa_cons (My.pe_cmK0 C_crashed (hr.mono (by decide)) pass0 (pv 9)) pa_nil)) (pv 2) (nomark _))
  (pss_one (ps_ret pe_bl))
  pss_nil)
  (pss_cons (ps_if (pt_cmpR op_lt (pe_callB call_len_seq (by rfl) T.n_len (by decide +kernel) (pa_cons (pv 3) pa_nil)) pe_int (nomark _))
  (pss_cons (ps_par (i := 10) (j := 11) (by rfl) sc_law_check_losses.nd rfl rfl (by decide) rfl rfl (pa_cons (pe_lcg rfl sc_law_check_losses.nd (hr.mono (by decide)) (pgen_cg C_crashes (hr.mono (by decide)) (pv 1)) (blkOk_by (own := [("_law_one", 14)]) (N := ["_law_pool_here", "_law_disk", "_law_safe", "_law_queue", "_law_spots", "_law_place", "_law_stay", "_law_rip", "_law_other", "_law_copy", "_law_found", "_law_chosen", "_law_due", "_law_some", "_law_one"]) (sc := defScope s_law_check_losses) (by decide +kernel)) rfl (by decide +kernel) (fun _ => rfl) (fun _ => rfl) (fun _ _ _ => peu_cl (iy := 14) C_law_held (hr.mono (by decide)) rfl rfl (Or.inl rfl))) (pa_cons (pe_lst (pa_cons (pe_lst pa_nil) pa_nil)) pa_nil)) (by rfl))
  (pss_cons (ps_for PassesOwn.never rfl (pi_list (pv 4)) (pg_name (i := 5) sc_law_check_losses.nd rfl (Or.inr rfl))
  (pss_one (ps_set (i := 11) sc_law_check_losses.nd rfl (Or.inl rfl) (pe_op op_cat (pv 11) (pe_lc (own := [("_law_some", 13)]) (g := gName 13) (tt := tYes) rfl sc_law_check_losses.nd (pi_list (pv 11)) (blkOk_by (own := [("_law_some", 13)]) (N := ["_law_pool_here", "_law_disk", "_law_safe", "_law_queue", "_law_spots", "_law_place", "_law_stay", "_law_rip", "_law_other", "_law_copy", "_law_found", "_law_chosen", "_law_due", "_law_some", "_law_one"]) (sc := defScope s_law_check_losses) (by decide +kernel)) (fun _ _ _ _ _ => pg_name (i := 13) sc_law_check_losses.nd rfl (Or.inl rfl)) (fun _ _ _ _ _ => pts_nil) (fun _ _ _ _ _ => (pe_op op_cat (pv 13) (pe_lst (pa_cons (pv 5) pa_nil)))))))))
  (pss_cons (ps_setLc (i := 12) (own := [("_law_some", 13)]) (g := gName 13) (tt := tYes) rfl sc_law_check_losses.nd rfl rfl (sw_true rfl rfl rfl (by decide +kernel)) (pi_list (pv 11)) (blkOk_by (own := [("_law_some", 13)]) (N := ["_law_pool_here", "_law_disk", "_law_safe", "_law_queue", "_law_spots", "_law_place", "_law_stay", "_law_rip", "_law_other", "_law_copy", "_law_found", "_law_chosen", "_law_due", "_law_some", "_law_one"]) (sc := defScope s_law_check_losses) (by decide +kernel)) (fun _ _ _ _ _ => pg_name (i := 13) sc_law_check_losses.nd rfl (Or.inl rfl)) (fun _ _ _ _ _ => pts_nil) (fun _ _ _ _ _ => (My.pe_cl C_law_after (hr.mono (by decide)) rfl (pa_cons (pv 2) (pa_cons (pv 3) (pa_cons (pv 13) (pa_cons (pe_lst pa_nil) pa_nil)))))))
  (pss_one (ps_if (pt_cmpR (op_neD hr.units) (pe_callB cr_sortedS (by rfl) T.n_sorted (by decide +kernel) (pa_cons (pe_lc (own := [("_law_one", 14)]) (g := gName 14) (tt := tYes) rfl sc_law_check_losses.nd (pi_list (pv 10)) (blkOk_by (own := [("_law_one", 14)]) (N := ["_law_pool_here", "_law_disk", "_law_safe", "_law_queue", "_law_spots", "_law_place", "_law_stay", "_law_rip", "_law_other", "_law_copy", "_law_found", "_law_chosen", "_law_due", "_law_some", "_law_one"]) (sc := defScope s_law_check_losses) (by decide +kernel)) (fun _ _ _ _ _ => pg_name (i := 14) sc_law_check_losses.nd rfl (Or.inl rfl)) (fun _ _ _ _ _ => pts_nil) (fun _ _ _ _ _ => (pe_callB (call_reprK (K := K) (by rfl) (by exact hg0) (by exact hu100 hr)) (by rfl) T.n_repr (by decide +kernel) (pa_cons (pv 14) pa_nil)))) pa_nil)) (pe_callB cr_sortedS (by rfl) T.n_sorted (by decide +kernel) (pa_cons (pe_lc (own := [("_law_one", 14)]) (g := gName 14) (tt := tYes) rfl sc_law_check_losses.nd (pi_list (pv 12)) (blkOk_by (own := [("_law_one", 14)]) (N := ["_law_pool_here", "_law_disk", "_law_safe", "_law_queue", "_law_spots", "_law_place", "_law_stay", "_law_rip", "_law_other", "_law_copy", "_law_found", "_law_chosen", "_law_due", "_law_some", "_law_one"]) (sc := defScope s_law_check_losses) (by decide +kernel)) (fun _ _ _ _ _ => pg_name (i := 14) sc_law_check_losses.nd rfl (Or.inl rfl)) (fun _ _ _ _ _ => pts_nil) (fun _ _ _ _ _ => (pe_callB (call_reprK (K := K) (by rfl) (by exact hg0) (by exact hu100 hr)) (by rfl) T.n_repr (by decide +kernel) (pa_cons (pv 14) pa_nil)))) pa_nil)) (nomark _))
  (pss_one (ps_ret pe_bl))
  pss_nil)))))
  pss_nil)
  (pss_one (ps_ret pe_bl))))))))))))))), ?_⟩
    refine My.x_start (σ := [some (V.ref p), some (V.ref a), some (V.ref sf), some (V.ref qu), none, none, none, none, none, none, none, none, none, none, none]) rfl ?_
    try dsimp only [cxOf, Cx.nox]
    walk_at "go"
    unfold tLstRg tRg1
    have ⟨hP, hD, hQ, hsf, hqu, hQ2⟩ := W
    walk_at "go"
    have hts2 : ts2.length = ts.length := by rw [hQ2.len, hQ.len]
    rw [List.length_map, hts2]
    refine ⟨RgOk.of_le (by omega) (by have := C.t; omega) (by omega) (by omega), fun sp hsp => ?_⟩
    rw [rgV_all]
    have sp_p : sp ≠ p := (hP.ne hsp).symm
    have B1 : Bar p H (upd H sp (.lst ((allI ts.length).map V.int))) := fun x o _ e => My.Same.new (Same.refl H) hsp _ _ e
    have W1 := W.same (My.Same.new (o := .lst ((allI ts.length).map V.int)) (Same.refl H) hsp)
    have s1 : upd H sp (.lst ((allI ts.length).map V.int)) sp = some (.lst ((allI ts.length).map V.int)) := upd_same
    generalize upd H sp (.lst ((allI ts.length).map V.int)) = H1 at B1 W1 s1 ⊢
    clear hP hD hQ hsf hqu hQ2 hsp
    walk_at "go"
    refine lc_draw (m := 2) W1.P s1 sp_p C.t (by decide) (by decide) fun st H2 is hi li nst P2 B2 e2 => ?_
    have st_p : st ≠ p := (W1.P.ne nst).symm
    have B2' := B1.trans B2
    have W2 := W1.bar C B2 P2
    have s2 := B2 _ _ sp_p s1
    clear B1 W1 s1 nst B2
    walk_at "go"
    refine lc_draw (m := 4) W2.P s2 sp_p C.t (by decide) (by decide) fun rp H3 js hj lj nrp P3 B3 e3 => ?_
    have B3' := B2'.trans B3
    have W3 := W2.bar C B3 P3
    have s3 := B3 _ _ sp_p s2
    have t3 := B3 _ _ st_p e2
    clear B2' W2 s2 e2 B3 P2 P3 nrp
    walk_at "go"
    have hlt := C.t
    have hl1 := C.l1
    have hl2 := C.l2
    have hts : Spots ts.length is := ⟨by omega, fun i h => by have := allI_ok (hi i h); omega⟩
    have htj : Spots ts.length js := ⟨by omega, fun i h => by have := allI_ok (hj i h); omega⟩
    refine ⟨_, rfl, a, dx, _, rfl, W3.D.ha, rfl, ?_⟩
    walk_at "go"
    refine ⟨rp, _, rfl, .inl ⟨SqL.of e3, fun tp htp => ?_⟩⟩
    have S4 := My.Same.new (o := .tup (js.map V.int)) (Same.refl H3) htp
    have T4' : upd H3 tp (.tup (js.map V.int)) tp = some (.tup (js.map V.int)) := upd_same
    have W4 := W3.same S4
    have B4 := Bar.same B3' S4
    have s4 := S4 _ _ s3
    have t4 := S4 _ _ t3
    have e4 := S4 _ _ e3
    generalize upd H3 tp (.tup (js.map V.int)) = H4 at T4' W4 B4 s4 t4 e4 ⊢
    clear S4 W3 B3' s3 t3 e3 htp
    walk_at "go"
    refine ⟨rfl, a, dx, b, s', q, bs, ss, ts, qs, _, _, is, js, rfl, W4.D, W4.Q, by omega, by omega, by omega, C.lt, ⟨_, rfl, .inl (SqL.of t4)⟩, ⟨_, rfl, .inr (SqT.of T4')⟩, hts, htj, fun a1 dx1 b1 s1 q1 H5 _ _ _ _ S5 D5 => ?_⟩
    have W5 := W4.same S5
    have B5 := Bar.same B4 S5
    have s5 := S5 _ _ s4
    have t5 := S5 _ _ t4
    have e5 := S5 _ _ e4
    clear S5 W4 B4 s4 t4 e4 T4'
    walk_at "go"
    refine ⟨a1, dx1, b1, s1, q1, _, _, _, rfl, D5, rfl, by rw [aftN_len]; omega, fun p6 H6 _ S6 e6 => ?_⟩
    have W6 := W5.same S6
    walk_at "go"
    refine ⟨sf, qu, st, rp, bs, ts2, qs, is, js, rfl, W6.sf, W6.qu, W6.Q2, SqL.of (S6 _ _ t5), SqL.of (S6 _ _ e5), C.lt, by omega, fun p7 H7 _ S7 e7 => ?_⟩
    refine x_neS (SqL.of (S7 _ _ e6)) (SqL.of e7) (cells_aftN C.cb C.cq _) rfl ?_
    have S57 := S6.trans S7
    have W7 := W5.same S57
    have B7 := Bar.same B5 S57
    have s7 := S57 _ _ s5
    have D7 := D5.same S57
    clear W5 W6 S6 S7 e6 e7 S57 B5 s5 t5 e5 D5
    walk_at "go"
    refine ⟨_, rfl, a1, dx1, _, rfl, D7.ha, a1, dx1, b1, s1, q1, _, _, [], [], rfl, D7, .nil, Nat.zero_le _, fun p8 H8 _ S8 e8 => ?_⟩
    walk_at "go"
    intro p9 hp9
    refine My.x_neI (ns := []) (ms := []) (SqL.of (My.Same.new (Same.refl H8) hp9 _ _ e8)) (SqL.of upd_same) ?_
    have S79 := S8.trans (My.Same.new (o := .lst []) (Same.refl H8) hp9)
    have W9 := W7.same S79
    have B9 := Bar.same B7 S79
    have s9 := S79 _ _ s7
    generalize upd H8 p9 (.lst []) = H9 at W9 B9 s9 ⊢
    clear W7 B7 s7 D7 S8 e8 hp9 S79
    simp only [decide_true, Bool.not_true]
    walk_at "go"
    have i0 : Spots ts.length [] := ⟨Nat.zero_le _, fun _ z => nomatch z⟩
    refine ⟨_, rfl, a, dx, _, rfl, W9.D.ha, rfl, rfl, a, dx, b, s', q, bs, ss, ts, qs, _, _, [], [], rfl, W9.D, W9.Q, by omega, by omega, by omega, C.lt, ⟨_, rfl, .inr (T.et1 _)⟩, ⟨_, rfl, .inr (T.et2 _)⟩, i0, i0, fun a2 dx2 b2 s2 q2 H10 _ _ _ _ S10 D10 => ?_⟩
    walk_at "go"
    refine ⟨a2, dx2, b2, s2, q2, _, _, _, rfl, D10, rfl, by rw [aftN_len]; omega, fun p11 H11 _ S11 e11 => ?_⟩
    have S911 := S10.trans S11
    have W11 := W9.same S911
    have B11 := Bar.same B9 S911
    have s11 := S911 _ _ s9
    walk_at "go"
    refine x_neS (SqL.of e11) (SqL.of W11.sf) (cells_aftN C.cb C.cq _) (aft_none _ _) ?_
    clear W9 B9 s9 S10 S11 S911 D10 e11
    walk_at "go"
    refine ⟨_, rfl, a, dx, _, rfl, W11.D.ha, rfl, ?_⟩
    walk_at "go"
    have hta : Spots ts.length (allI ts.length) := ⟨by rw [allI_len]; omega, fun i h => by have := allI_ok h; omega⟩
    refine ⟨rfl, a, dx, b, s', q, bs, ss, ts, qs, _, _, [], allI ts.length, rfl, W11.D, W11.Q, by omega, by omega, by omega, C.lt, ⟨_, rfl, .inr (T.et1 _)⟩, ⟨_, rfl, .inl (SqL.of s11)⟩, i0, hta, fun a2 dx2 b2 s2 q2 H12 _ _ _ _ S12 D12 => ?_⟩
    walk_at "go"
    refine ⟨a2, dx2, b2, s2, q2, _, _, _, rfl, D12, rfl, by rw [aftN_len]; omega, fun p13 H13 _ S13 e13 => ?_⟩
    have S1113 := S12.trans S13
    have W13 := W11.same S1113
    have B13 := Bar.same B11 S1113
    have s13 := S1113 _ _ s11
    clear W11 B11 s11 S12 S13 S1113 D12
    walk_at "go"
    intro l0 hl0
    have S14 := My.Same.new (o := .lst []) (Same.refl H13) hl0
    have W14 := W13.same S14
    have B14 := Bar.same B13 S14
    have s14 := S14 _ _ s13
    have e14 := S14 _ _ e13
    have l14 : upd H13 l0 (.lst []) l0 = some (.lst (([] : List Int).map V.int)) := upd_same
    generalize upd H13 l0 (.lst []) = H14 at W14 B14 s14 e14 l14 ⊢
    clear W13 B13 s13 e13 S14 hl0
    walk_at "go"
    refine ⟨sf, qu, l0, sp, bs, ts2, qs, [], allI ts.length, rfl, W14.sf, W14.qu, W14.Q2, SqL.of l14, SqL.of s14, C.lt, by omega, fun p15 H15 _ S15 e15 => ?_⟩
    refine x_neS (SqL.of (S15 _ _ e14)) (SqL.of e15) (cells_aftN C.cb C.cq _) rfl ?_
    have W15 := W14.same S15
    have B15 := Bar.same B14 S15
    have s15 := S15 _ _ s14
    clear W14 B14 s14 e14 l14 S15 e15
    have fa15 := W15.D.ha
    walk_at "go"
    refine ⟨a, dx, b, s', q, bs, ss, ts, qs, rfl, W15.D, W15.Q, by omega, by omega, by omega, C.lt, fun a3 dx3 b3 s3 q3 H16 _ _ _ _ S16 D16 => ?_⟩
    rw [aft_none] at D16
    have W16 := W15.same S16
    have B16 := Bar.same B15 S16
    have s16 := S16 _ _ s15
    have Q16 := W16.Q
    clear W15 B15 s15 fa15 S16
    walk_at "go"
    refine My.x_neO D16.ha (TyD.dsk W16.D.ha) ⟨a3, dx3, b3, s3, q3, _, _, _, _, rfl, D16, C.cs, .inl ⟨a, dx, b, s', q, bs, ss, ts, rfl, W16.D, C.cs, _, rfl, ?_⟩⟩
    simp only [decide_true, Bool.not_true]
    walk_at "go"
    have enum : ∀ z : List (Nat × V), (z.map fun p => V.int (p.1 : Nat)) = (z.map fun p => ((p.1 : Nat) : Int)).map V.int := fun z => by rw [List.map_map]; rfl
    refine ⟨_, rfl, a3, dx3, _, rfl, D16.ha, a3, dx3, b3, s3, q3, _, _, ts, qs, rfl, D16, Q16, by omega, fun p17 H17 _ S17 e17 => ?_⟩
    have W17 := W16.same S17
    walk_at "go"
    refine ⟨_, rfl, a, dx, _, rfl, W17.D.ha, a, dx, b, s', q, bs, ss, ts, qs, rfl, W17.D, W17.Q, by omega, fun p18 H18 _ S18 e18 => ?_⟩
    rw [enum] at e17 e18
    refine My.x_neI (SqL.of (S18 _ _ e17)) (SqL.of e18) ?_
    have S1618 := S17.trans S18
    have W18 := W16.same S1618
    have B18 := Bar.same B16 S1618
    have s18 := S1618 _ _ s16
    have D18 := D16.same S1618
    have Q18 := Q16.same S1618
    clear W16 W17 B16 s16 D16 Q16 S17 S18 S1618 e17 e18
    simp only [decide_true, Bool.not_true]
    walk_at "go"
    refine ⟨_, rfl, a3, dx3, _, rfl, D18.ha, rfl, rfl, a3, dx3, b3, s3, q3, bs, ss, ts, qs, _, _, [], [], rfl, D18, Q18, by omega, by omega, by omega, C.lt, ⟨_, rfl, .inr (T.et1 _)⟩, ⟨_, rfl, .inr (T.et2 _)⟩, i0, i0, fun a4 dx4 b4 s4' q4 H19 _ _ _ _ S19 D19 => ?_⟩
    walk_at "go"
    refine ⟨a4, dx4, b4, s4', q4, _, _, _, rfl, D19, rfl, by rw [aftN_len]; omega, fun p20 H20 _ S20 e20 => ?_⟩
    have S1820 := S19.trans S20
    have W20 := W18.same S1820
    have B20 := Bar.same B18 S1820
    have s20 := S1820 _ _ s18
    clear W18 B18 s18 S19 S20 S1820 D18 Q18 D19
    walk_at "go"
    refine x_neS (SqL.of e20) (SqL.of W20.sf) (cells_aftN C.cb C.cq _) (aft_none _ _) ?_
    clear e20
    have qu20 := W20.qu
    walk_at "go"
    rw [List.length_map, hts2]
    refine My.x_dec (fun h6 => ?_) (fun h6 => ?_)
    · walk_at "go"
      have hn5 : ts.length ≤ 5 := by omega
      have hpow : (subsC ts.length).length ≤ 32 := by rw [subsC_len]; exact Nat.pow_le_pow_right (by omega) hn5
      unfold tLcg tGen0
      refine ⟨_, rfl, a, dx, _, rfl, W20.D.ha, rfl, (subsC ts.length).length, fun D nD => ?_⟩
      have SD := My.Same.new (o := .lst []) (Same.refl H20) nD
      refine ⟨fun i H' => (Bar D (upd H20 D (.lst [])) H' ∧ ∃ fs : List Addr, H' D = some (.lst (fs.map V.ref)) ∧ Hs bs qs H' fs ((subsC ts.length).take i) ∧ ∀ f ∈ fs, f ≠ D) ∧ i = (subsC ts.length).length, ?_,
        a, dx, b, s', q, D, bs, ss, ts, qs, (fun i H' => Bar D (upd H20 D (.lst [])) H' ∧ ∃ fs : List Addr, H' D = some (.lst (fs.map V.ref)) ∧ Hs bs qs H' fs ((subsC ts.length).take i) ∧ ∀ f ∈ fs, f ≠ D), rfl, W20.D.same SD, W20.Q.same SD, by omega, by omega, hn5, C.lt, upd_same,
        ne_of_none W20.D.hb nD, ne_of_none W20.D.hs nD, ne_of_none W20.D.hq nD, Nat.le_refl _, ⟨fun _ _ _ e => e, [], upd_same, .nil, fun f hf => nomatch hf⟩, ?_, ?_, fun H' z => ⟨z, rfl⟩⟩
      · rintro i H21 ⟨⟨BD, fs, gD, hsD, nf⟩, rfl⟩
        rw [List.take_length] at hsD
        have S21 : Same H20 H21 := fun c o e => BD c o (ne_of_none e nD) (by rw [upd_ne (ne_of_none e nD)]; exact e)
        have W21 := W20.same S21
        have B21 := Bar.same B20 S21
        have s21 := S21 _ _ s20
        clear BD nf S21 W20 B20 s20 SD
        walk_at "go"
        intro c0 hc0
        have S22 := My.Same.new (o := .lst []) (Same.refl H21) hc0
        have e22 : upd H21 c0 (.lst []) c0 = some (.lst []) := upd_same
        generalize upd H21 c0 (.lst []) = H22 at S22 e22 ⊢
        walk_at "go"
        intro c1 hc1
        have S23 := S22.trans (My.Same.new (o := .lst [V.ref c0]) (Same.refl H22) hc1)
        have e23 : upd H22 c1 (.lst [V.ref c0]) c1 = some (.lst [V.ref c0]) := upd_same
        have e230 : upd H22 c1 (.lst [V.ref c0]) c0 = some (.lst []) := by rw [upd_ne (ne_of_none e22 hc1)]; exact e22
        generalize upd H22 c1 (.lst [V.ref c0]) = H23 at S23 e23 e230 ⊢
        have W23 := W21.same S23
        have B23 := Bar.same B21 S23
        have s23 := S23 _ _ s21
        have gD23 := S23 _ _ gD
        have hsD23 := hsD.same S23
        clear W21 B21 s21 gD hsD S22 e22 S23 hc0 hc1
        walk_at "go"
        refine My.for_runs (My.runs_list (K := K) (a := sp) V.int (allI ts.length)) (fun pre σ' H' => Same H23 H' ∧ ∃ cu o5 o13, σ' = [some (V.ref p), some (V.ref a), some (V.ref sf), some (V.ref qu), some (V.ref sp), o5, some (V.ref st), some (V.ref rp), some (V.ref a1), some (V.ref a3), some (V.ref D), some (V.ref cu), none, o13, none] ∧ ∃ us : List Addr, H' cu = some (.lst (us.map V.ref)) ∧ Ls H' us (subsL pre.length))
          ⟨Same.refl H23, c1, _, _, rfl, [c0], e23, .cons e230 .nil⟩ (fun pre post σ' H' _ z => SqL.of (z.1 _ _ s23)) ?_ ?_
        · rintro pre x post σ' H24 v H25 hpre ⟨S24, cu, o5, o13, rfl, us, gc, L24⟩ ⟨rfl, rfl⟩
          obtain ⟨rfl, hk⟩ := allI_at hpre rfl
          have hlen : ∀ y : Int, (pre ++ [y]).length = pre.length + 1 := fun y => by rw [List.length_append]; rfl
          rw [hlen]
          generalize pre.length = k at hk L24 ⊢
          have hsl : (subsL k).length ≤ 32 := by rw [subsL_len]; exact Nat.pow_le_pow_right (by omega) (by omega : k ≤ 5)
          walk_at "go"
          intro L hL
          refine My.lc_runs (My.runs_list (K := K) (a := cu) V.ref us) (fun pre' H' => Same H25 H' ∧ ∃ ws : List Addr, H' L = some (.lst (ws.map V.ref)) ∧ Ls H' ws (((subsL k).take pre'.length).map fun c => c ++ [(k : Int)])) ⟨My.Same.new (Same.refl H25) hL, [], upd_same, .nil⟩ (fun pre' post' H' _ z => SqL.of (z.1 _ _ gc)) ?_ ?_
          · rintro pre' u post' H26 v H27 hpre' ⟨S26, ws, g26, L26⟩ ⟨rfl, rfl⟩
            obtain ⟨c, hc, hu⟩ := L24.at pre'.length u (by rw [hpre']; simp)
            have hwl : ws.length ≤ 32 := by rw [L26.len, List.length_map, List.length_take]; omega
            have hcl := (subsL_ok k c (List.mem_of_getElem? hc)).1
            simp only [List.map_cons, List.map_nil, wipe, List.set_cons_succ, List.set_cons_zero]
            walk_at "go"
            refine ⟨rfl, ?_⟩
            walk_at "go"
            intro e1 he1
            have S28 := S26.trans (My.Same.new (o := .lst [V.int k]) (Same.refl H27) he1)
            have g28 : upd H27 e1 (.lst [V.int k]) L = some (.lst (ws.map V.ref)) := by rw [upd_ne (ne_of_none g26 he1)]; exact g26
            have L28 := L26.same (My.Same.new (o := .lst [V.int k]) (Same.refl H27) he1)
            have e28 : upd H27 e1 (.lst [V.int k]) e1 = some (.lst ([(k : Int)].map V.int)) := upd_same
            generalize upd H27 e1 (.lst [V.int k]) = H28 at S28 g28 L28 e28 ⊢
            clear S26 g26 L26 he1
            walk_at "go"
            refine My.x_cat (S28 _ _ hu) e28 (by rw [List.length_map, List.length_map, sizeLine_eq]; simp; omega) fun pp hpp => ?_
            refine ⟨_, by rw [upd_ne (ne_of_none g28 hpp)]; exact g28, by rw [List.length_map, sizeLine_eq]; omega, My.Same.mut (My.Same.new S28 hpp) hL, ws ++ [pp], by rw [upd_same, List.map_append]; rfl, ?_⟩
            rw [List.length_append, List.length_singleton, List.take_add_one, hc, List.map_append]
            have pL : pp ≠ L := (ne_of_none g28 hpp).symm
            refine Ls.snoc (L28.imp fun w d hw e => ?_) (by rw [upd_ne pL, upd_same, List.map_append])
            rw [upd_ne (fun q => ?_), upd_ne (ne_of_none e hpp)]
            · exact e
            · rw [q, g28] at e
              have e : ws.map V.ref = d.map V.int := by injection e with e; injection e
              rw [ref_int e] at hw
              cases hw
          · rintro H26 ⟨S26, ws, g26, L26⟩
            rw [L24.len, List.take_length] at L26
            have hwl : ws.length ≤ 32 := by rw [L26.len, List.length_map]; omega
            have hul : us.length ≤ 32 := by rw [L24.len]; omega
            walk_at "go"
            refine My.x_cat (S26 _ _ gc) g26 (by rw [List.length_map, List.length_map, sizeLine_eq]; omega) fun pp hpp => ?_
            have S27 := My.Same.new (o := .lst (us.map V.ref ++ ws.map V.ref)) (Same.refl H26) hpp
            walk_at "go"
            refine ⟨S24.trans (S26.trans S27), pp, _, _, rfl, us ++ ws, by rw [upd_same, List.map_append], ?_⟩
            have La := (L24.same S26).same S27
            have Lb := L26.same S27
            unfold Ls at La Lb ⊢
            unfold subsL
            exact paired_append La Lb
        · rintro σ' H24 ⟨S24, cu, o5, o13, rfl, us, gc, L24⟩
          rw [allI_len] at L24
          have W24 := W23.same S24
          have B24 := Bar.same B23 S24
          have gD24 := S24 _ _ gD23
          have hsD24 := hsD23.same S24
          have hsl : (subsL ts.length).length ≤ 32 := by rw [subsL_len]; exact Nat.pow_le_pow_right (by omega) hn5
          clear W23 B23 s23 gD23 hsD23 S24 e23 e230
          walk_at "go"
          intro L hL
          refine My.lc_runs (My.runs_list (K := K) (a := cu) V.ref us) (fun pre' H' => Same H24 H' ∧ ∃ ds : List Addr, H' L = some (.lst (ds.map V.ref)) ∧ Hs bs qs H' ds ((subsL ts.length).take pre'.length) ∧ ∀ w ∈ ds, w ≠ L) ⟨My.Same.new (Same.refl H24) hL, [], upd_same, .nil, fun w hw => nomatch hw⟩ (fun pre' post' H' _ z => SqL.of (z.1 _ _ gc)) ?_ ?_
          · rintro pre' u post' H26 v H27 hpre' ⟨S26, ds, g26, L26, nd⟩ ⟨rfl, rfl⟩
            obtain ⟨c, hc, hu⟩ := L24.at pre'.length u (by rw [hpre']; simp)
            have hwl : ds.length ≤ 32 := by rw [L26.len, List.length_take]; omega
            simp only [List.map_cons, List.map_nil, wipe, List.set_cons_succ, List.set_cons_zero]
            walk_at "go"
            refine ⟨rfl, ?_⟩
            walk_at "go"
            intro e1 he1
            have S28 := S26.trans (My.Same.new (o := .lst []) (Same.refl H27) he1)
            have g28 : upd H27 e1 (.lst []) L = some (.lst (ds.map V.ref)) := by rw [upd_ne (ne_of_none g26 he1)]; exact g26
            have L28 := L26.same (My.Same.new (o := .lst []) (Same.refl H27) he1)
            have e28 : upd H27 e1 (.lst []) e1 = some (.lst (([] : List Int).map V.int)) := upd_same
            generalize upd H27 e1 (.lst []) = H28 at S28 g28 L28 e28 ⊢
            clear S26 g26 L26 he1
            have W28 := W24.same S28
            walk_at "go"
            refine ⟨sf, qu, u, e1, bs, ts2, qs, c, [], rfl, W28.sf, W28.qu, W28.Q2, SqL.of (S28 _ _ hu), SqL.of e28, C.lt, by omega, fun pp H29 npp S29 e29 => ?_⟩
            have pL : pp ≠ L := (ne_of_none g28 npp).symm
            refine ⟨_, S29 _ _ g28, by rw [List.length_map, sizeLine_eq]; omega, My.Same.mut (S28.trans S29) hL, ds ++ [pp], by rw [upd_same, List.map_append]; rfl, ?_, fun w hw => ?_⟩
            · rw [List.length_append, List.length_singleton, List.take_add_one, hc]
              exact Hs.snoc (L28.imp fun w o hw e => by rw [upd_ne (nd w hw)]; exact S29 _ _ e) (by rw [upd_ne pL]; exact e29)
            · rcases List.mem_append.mp hw with hw | hw
              · exact nd w hw
              · rw [List.mem_singleton.mp hw]; exact pL
          · rintro H26 ⟨S26, ds, g26, L26, nd⟩
            rw [L24.len, List.take_length] at L26
            have W26 := W24.same S26
            have B26 := Bar.same B24 S26
            have gD26 := S26 _ _ gD24
            have hsD26 := hsD24.same S26
            clear W24 B24 gD24 hsD24 S26 L24 gc hL
            walk_at "go"
            refine lc_shown gD26 hsD26 C.cb C.cq (by omega) (by omega) rfl fun L1 H30 _ S30 e30 => ?_
            walk_at "go"
            refine ⟨L1, _, rfl, SqL.of e30, by rw [List.length_map]; omega, fun y1 p1 pm1 so1 hp1 => ?_⟩
            have S31 := S30.trans (My.Same.new (o := .lst (y1.map V.str)) (Same.refl H30) hp1)
            have e31 : upd H30 p1 (.lst (y1.map V.str)) p1 = some (.lst (y1.map V.str)) := upd_same
            generalize upd H30 p1 (.lst (y1.map V.str)) = H31 at S31 e31 ⊢
            have g31 := S31 _ _ g26
            have d31 := L26.same S31
            walk_at "go"
            refine lc_shown g31 d31 C.cb C.cq (by omega) (by omega) rfl fun L2 H32 _ S32 e32 => ?_
            walk_at "go"
            refine ⟨L2, _, rfl, SqL.of e32, by rw [List.length_map]; omega, fun y2 p2 pm2 so2 hp2 => ?_⟩
            have S33 := S32.trans (My.Same.new (o := .lst (y2.map V.str)) (Same.refl H32) hp2)
            refine x_neStr (SqL.of (S33 _ _ e31)) (SqL.of upd_same) (fun x hx => ?_) (sorted_eq ((pm1.trans ((subs_perm ts.length).map _)).trans pm2.symm) so1 so2) ?_
            · obtain ⟨c, _, rfl⟩ := List.mem_map.mp (pm1.mem_iff.mp hx)
              exact strOk_shw (cells_aftN C.cb C.cq _)
            walk_at "go"
            have S3 := S31.trans S33
            exact h _ (W26.same S3).P (Bar.same B26 S3)
      · rintro i Ha Hb ⟨B, fs, g, hs, nf⟩ S
        exact ⟨fun x o n e => S _ _ (B x o n e), fs, S _ _ g, hs.same S, nf⟩
      · rintro i c a5 dx5 b5 s5 q5 Ha k hc ⟨B, fs, g, hs, nf⟩ D5 hk
        have hfl : fs.length ≤ 32 := by rw [hs.len, List.length_take]; omega
        refine ⟨.ref a5, rfl, a5, dx5, b5, s5, q5, _, _, _, rfl, D5, rfl, by rw [aftN_len]; omega, fun p21 Hb np Sb eb => ?_⟩
        refine ⟨_, Sb _ _ g, by rw [List.length_map, sizeLine_eq]; omega, hk _ (fun x o n e => by rw [upd_ne n]; exact Sb _ _ e) ⟨fun x o n e => by rw [upd_ne n]; exact Sb _ _ (B x o n e), fs ++ [p21], by rw [upd_same, List.map_append]; rfl, ?_, fun f hf => ?_⟩⟩
        · rw [List.take_add_one, hc]
          have pD : p21 ≠ D := (ne_of_none g np).symm
          exact Hs.snoc (hs.imp fun u o hu e => by rw [upd_ne (nf u hu)]; exact Sb _ _ e) (by rw [upd_ne pD]; exact eb)
        · rcases List.mem_append.mp hf with hf | hf
          · exact nf f hf
          · rw [List.mem_singleton.mp hf]; exact (ne_of_none g np).symm
    · walk_at "go"
      exact h H20 W20.P B20
end
end K01

end

section
namespace K01
open PySem PySem.Spec PyProof.Rows L2
/-- the law's things at a turn: H0 is what stood before them -/
structure Wo (K : PySem.W.Frag) (H0 H : Hp) (p a dx b s q sf qu : Addr) (n : Nat) (bs ss : List V) (ts ts2 : List Addr) (qs : List (Nat × V)) : Prop where
  L : Lw K H p a dx b s q sf qu bs ss ts ts2 qs
  S : Same H0 H
  fp : H0 p = none
  fa : H0 a = none
  fb : H0 b = none
  fs : H0 s = none
  fq : H0 q = none
  ff : H0 sf = none
  fu : H0 qu = none
  nfu : sf ≠ qu
  nfb : sf ≠ b
  nfs : sf ≠ s
  nfq : sf ≠ q
  nub : qu ≠ b
  nus : qu ≠ s
  nuq : qu ≠ q
  nb : b ≠ p
  ns : s ≠ p
  nq : q ≠ p
  nf : sf ≠ p
  nu : qu ≠ p
  lb : bs.length = n
  l1 : 1 ≤ n
  l2 : n ≤ 60
  cb : Cells bs
  cq : ∀ x ∈ qs, Cell x.2
  lt : ∀ x ∈ qs, x.1 < n
  e : ss = wr bs qs
section
variable {K : PySem.W.Frag} {H0 H H1 H2 H3 : Hp} {p a dx b s q sf qu : Addr} {n : Nat} {bs ss : List V} {ts ts2 : List Addr} {qs : List (Nat × V)}
theorem Wo.same (W : Wo K H0 H p a dx b s q sf qu n bs ss ts ts2 qs) (S : Same H H1) : Wo K H0 H1 p a dx b s q sf qu n bs ss ts ts2 qs := { W with L := W.L.same S, S := W.S.trans S }
theorem Wo.ls (W : Wo K H0 H p a dx b s q sf qu n bs ss ts ts2 qs) : ss.length = n := by rw [W.e, wr_len, W.lb]
theorem Wo.cs (W : Wo K H0 H p a dx b s q sf qu n bs ss ts ts2 qs) : Cells ss := by rw [W.e]; exact cells_wr W.cb W.cq
theorem Wo.lc (W : Wo K H0 H p a dx b s q sf qu n bs ss ts ts2 qs) (h : ts.length ≤ 20) : Lc p b s q sf qu bs ss ts ts2 qs :=
  ⟨by rw [W.ls, W.lb], by rw [W.lb]; exact W.l1, by rw [W.lb]; have := W.l2; omega, h, W.cb, W.cs, W.cq, fun x hx => by rw [W.lb]; exact W.lt x hx, W.nb, W.ns, W.nq, W.nf, W.nu⟩
theorem Wo.lts (W : Wo K H0 H p a dx b s q sf qu n bs ss ts ts2 qs) : ts2.length = qs.length ∧ ts.length = qs.length := ⟨W.L.Q2.len, W.L.Q.len⟩
theorem Wo.bar (W : Wo K H0 H p a dx b s q sf qu n bs ss ts ts2 qs) (B : Bar p H H1) (P : My.PoolAt H1 p) : Wo K H0 H1 p a dx b s q sf qu n bs ss ts ts2 qs := by
  obtain ⟨x, y, e, _⟩ := W.L.P
  refine { W with L := ⟨P, ⟨B _ _ (fun z => ?_) W.L.D.ha, B _ _ W.nb W.L.D.hb, B _ _ W.ns W.L.D.hs, B _ _ W.nq W.L.D.hq, W.L.D.nbs, W.L.D.nbq, W.L.D.nsq⟩, W.L.Q.imp fun t u h => B _ _ (fun z => ?_) h, B _ _ W.nf W.L.sf, B _ _ W.nu W.L.qu, W.L.Q2.imp fun t u h => B _ _ (fun z => ?_) h⟩, S := fun c o h => B _ _ (fun z => ?_) (W.S c o h) }
  · have := W.L.D.ha; rw [z, e] at this; cases this
  · rw [z, e] at h; cases h
  · rw [z, e] at h; cases h
  · rw [z, W.fp] at h; cases h
theorem But.bar (B : My.But p H H1) : Bar p H H1 := fun x o n e => (B x n).trans e
theorem Wo.but (W : Wo K H0 H p a dx b s q sf qu n bs ss ts ts2 qs) (B : My.But p H H1) (P : My.PoolAt H1 p) : Wo K H0 H1 p a dx b s q sf qu n bs ss ts ts2 qs := W.bar (But.bar B) P
/-- what stands beside the disk is kept -/
theorem Wo.rest (W : Wo K H0 H p a dx b s q sf qu n bs ss ts ts2 qs) (k : ∀ c o, c ≠ a → c ≠ b → c ≠ s → c ≠ q → H c = some o → H1 c = some o) :
    H1 sf = some (.lst bs) ∧ H1 qu = some (.lst (ts2.map V.ref)) ∧ Qs H1 ts2 qs ∧ My.PoolAt H1 p ∧ Same H0 H1 := by
  have ⟨P, D, Q, f, u, Q2⟩ := W.L
  obtain ⟨x, y, e, e2⟩ := P
  refine ⟨k _ _ (fun z => ?_) W.nfb W.nfs W.nfq f, k _ _ (fun z => ?_) W.nub W.nus W.nuq u, Q2.imp fun t x e => k _ _ (fun z => ?_) (fun z => ?_) (fun z => ?_) (fun z => ?_) e, ⟨x, y, k _ _ (fun z => ?_) W.nb.symm W.ns.symm W.nq.symm e, e2⟩, fun c o h => k _ _ (fun z => ?_) (fun z => ?_) (fun z => ?_) (fun z => ?_) (W.S c o h)⟩
  · rw [z, D.ha] at f; cases f
  · rw [z, D.ha] at u; cases u
  · rw [z, D.ha] at e; cases e
  · rw [z, D.hb] at e; cases e
  · rw [z, D.hs] at e; cases e
  · rw [z, D.hq] at e; cases e
  · rw [z, D.ha] at e; cases e
  · rw [z, W.fa] at h; cases h
  · rw [z, W.fb] at h; cases h
  · rw [z, W.fs] at h; cases h
  · rw [z, W.fq] at h; cases h
theorem Wo.flushed (W : Wo K H0 H p a dx b s q sf qu n bs ss ts ts2 qs) {q' sf' qu' : Addr} (hq : H q' = none) (k : ∀ c o, c ≠ a → c ≠ b → H c = some o → H1 c = some o) (D1 : DkB K H1 a dx b s q' (wr bs qs) ss [])
    (hs : H1 sf' = none) (S : Same H1 H2) (e : H2 sf' = some (.lst (wr bs qs))) (hu : H2 qu' = none) : Wo K H0 (upd H2 qu' (.lst [])) p a dx b s q' sf' qu' n (wr bs qs) ss [] [] [] := by
  obtain ⟨f1, u1, Q1, P1, S1⟩ := W.rest fun c o h1 h2 _ _ h => k c o h1 h2 h
  have S2 := S.trans (My.Same.new (o := .lst []) (Same.refl H2) hu)
  have hu1 : H1 qu' = none := S.free hu
  have P3 := P1.sees S2
  exact ⟨⟨P3, D1.same S2, .nil, by rw [upd_ne (ne_of_none e hu)]; exact e, upd_same, .nil⟩, S1.trans S2, W.fp, W.fa, W.fb, W.fs, W.S.free hq, S1.free hs, S1.free hu1, ne_of_none e hu,
    (ne_of_none D1.hb hs).symm, (ne_of_none D1.hs hs).symm, (ne_of_none D1.hq hs).symm, (ne_of_none D1.hb hu1).symm, (ne_of_none D1.hs hu1).symm, (ne_of_none D1.hq hu1).symm, W.nb, W.ns, (W.L.P.ne hq).symm, (P1.ne hs).symm, (P1.ne hu1).symm,
    by rw [wr_len, W.lb], W.l1, W.l2, cells_wr W.cb W.cq, fun _ z => (nomatch z), fun _ z => (nomatch z), W.e⟩
theorem Wo.lost (W : Wo K H0 H p a dx b s q sf qu n bs ss ts ts2 qs) {q' qu' : Addr} {ts' us : List Addr} {d : Nat} (hd : d < n) (hq : H q' = none) (k : ∀ c o, c ≠ a → c ≠ b → c ≠ s → H c = some o → H1 c = some o)
    (D1 : DkB K H1 a dx b s q' (bs.set d .non) (ss.set d .non) ts') (Q1 : Qs H1 ts' (qs.filter fun p => decide (p.1 ≠ d))) (hu : upd H1 sf (.lst (bs.set d .non)) qu' = none) (S : Same (upd H1 sf (.lst (bs.set d .non))) H3)
    (e : H3 qu' = some (.lst (us.map V.ref))) (Q3 : Qs H3 us (qs.filter fun p => decide (p.1 ≠ d))) : Wo K H0 H3 p a dx b s q' sf qu' n (bs.set d .non) (ss.set d .non) ts' us (qs.filter fun p => decide (p.1 ≠ d)) := by
  obtain ⟨f1, u1, Q1', P1, S1⟩ := W.rest fun c o h1 h2 h3 _ h => k c o h1 h2 h3 h
  have fq : sf ≠ q' := ne_of_none W.L.sf hq
  have af : a ≠ sf := fun z => by have := D1.ha; rw [z, f1] at this; cases this
  have D2 : DkB K (upd H1 sf (.lst (bs.set d .non))) a dx b s q' (bs.set d .non) (ss.set d .non) ts' := ⟨by rw [upd_ne af]; exact D1.ha, by rw [upd_ne W.nfb.symm]; exact D1.hb, by rw [upd_ne W.nfs.symm]; exact D1.hs, by rw [upd_ne fq.symm]; exact D1.hq, D1.nbs, D1.nbq, D1.nsq⟩
  have P2 : My.PoolAt (upd H1 sf (.lst (bs.set d .non))) p := P1.mut W.nf.symm
  have Q2 : Qs (upd H1 sf (.lst (bs.set d .non))) ts' (qs.filter fun p => decide (p.1 ≠ d)) := Q1.imp fun t x h => by rw [upd_ne fun z => by rw [z, f1] at h; cases h]; exact h
  have f2 : upd H1 sf (.lst (bs.set d .non)) sf = some (.lst (bs.set d .non)) := upd_same
  have S2 : Same H0 (upd H1 sf (.lst (bs.set d .non))) := My.Same.mut S1 W.ff
  exact ⟨⟨P2.sees S, D2.same S, Q2.same S, S _ _ f2, e, Q3⟩, S2.trans S, W.fp, W.fa, W.fb, W.fs, W.S.free hq, W.ff, S2.free hu, ne_of_none f2 hu, W.nfb, W.nfs, fq, (ne_of_none D2.hb hu).symm, (ne_of_none D2.hs hu).symm, (ne_of_none D2.hq hu).symm,
    W.nb, W.ns, (W.L.P.ne hq).symm, W.nf, (P2.ne hu).symm, by rw [List.length_set, W.lb], W.l1, W.l2, cells_set W.cb (.inl rfl), fun x hx => W.cq x (List.mem_filter.mp hx).1, fun x hx => W.lt x (List.mem_filter.mp hx).1, by rw [wr_lose, W.e]⟩
theorem Wo.wrote (W : Wo K H0 H p a dx b s q sf qu n bs ss ts ts2 qs) {t t2 : Addr} {d : Nat} {z : Str} (hd : d < n) (hz : z ∈ T4) (ht : H1 t = some (.tup [.int d, .str z])) (k : ∀ c o, c ≠ s → c ≠ q → H c = some o → H1 c = some o)
    (D1 : DkB K H1 a dx b s q bs (ss.set d (.str z)) (ts ++ [t])) (h2 : H1 t2 = none) :
    Wo K H0 (upd (upd H1 t2 (.tup [.int d, .str z])) qu (.lst (ts2.map V.ref ++ [.ref t2]))) p a dx b s q sf qu n bs (ss.set d (.str z)) (ts ++ [t]) (ts2 ++ [t2]) (qs ++ [(d, .str z)]) := by
  obtain ⟨f1, u1, Q1', P1, S1⟩ := W.rest fun c o _ _ h1 h2 h => k c o h1 h2 h
  have S2 := My.Same.new (o := .tup [.int d, .str z]) (Same.refl H1) h2
  have e2 : upd H1 t2 (.tup [.int d, .str z]) t2 = some (.tup [.int d, .str z]) := upd_same
  have Qa : Qs H1 ts qs := W.L.Q.imp fun t x h => k _ _ (fun z => by rw [z, W.L.D.hs] at h; cases h) (fun z => by rw [z, W.L.D.hq] at h; cases h) h
  have D2 := D1.same S2
  have u2 := S2 _ _ u1
  have f2 := S2 _ _ f1
  have Q2 := Q1'.same S2
  have Qa2 := Qa.same S2
  have t22 := S2 _ _ ht
  have P2 := P1.sees S2
  have S2' := S1.trans S2
  generalize upd H1 t2 (.tup [.int d, .str z]) = H2 at S2 e2 D2 u2 f2 Q2 Qa2 t22 P2 S2' ⊢
  have au : a ≠ qu := fun z => by have := D2.ha; rw [z, u2] at this; cases this
  have tk : ∀ x y, H2 x = some (.tup y) → upd H2 qu (.lst (ts2.map V.ref ++ [.ref t2])) x = some (.tup y) := fun x y h => by rw [upd_ne fun z => by rw [z, u2] at h; cases h]; exact h
  refine ⟨⟨P2.mut W.nu.symm, ⟨by rw [upd_ne au]; exact D2.ha, by rw [upd_ne W.nub.symm]; exact D2.hb, by rw [upd_ne W.nus.symm]; exact D2.hs, by rw [upd_ne W.nuq.symm]; exact D2.hq, D2.nbs, D2.nbq, D2.nsq⟩,
    (Qa2.imp tk).snoc (tk _ _ t22), by rw [upd_ne W.nfu]; exact f2, by rw [upd_same, List.map_append]; rfl, (Q2.imp tk).snoc (tk _ _ e2)⟩, My.Same.mut S2' W.fu, W.fp, W.fa, W.fb, W.fs, W.fq, W.ff, W.fu, W.nfu, W.nfb, W.nfs, W.nfq, W.nub, W.nus, W.nuq,
    W.nb, W.ns, W.nq, W.nf, W.nu, W.lb, W.l1, W.l2, W.cb, fun x hx => ?_, fun x hx => ?_, by rw [wr_append, W.e]⟩
  · rcases List.mem_append.mp hx with hx | hx
    · exact W.cq x hx
    · rw [List.mem_singleton.mp hx]; exact .inr ⟨z, hz, rfl⟩
  · rcases List.mem_append.mp hx with hx | hx
    · exact W.lt x hx
    · rw [List.mem_singleton.mp hx]; exact hd
/-- a new disk's addresses -/
theorem made_same {H5 H6 : Hp} {a dx : Addr} {C : Addr} (ha : H5 a = none) (hd : H5 dx = none) (k : ∀ c o, c ≠ a → upd (upd H5 dx (.own a)) a (.ins C dx []) c = some o → H6 c = some o) : Same H5 H6 := fun c o e => by
  have h1 := ne_of_none e ha
  have h2 := ne_of_none e hd
  exact k c o h1 (by rw [upd_ne h1, upd_ne h2]; exact e)
theorem made_free {H5 : Hp} {a dx c : Addr} {C : Addr} (ha : H5 a = none) (hd : H5 dx = none) (h : upd (upd H5 dx (.own a)) a (.ins C dx []) c = none) : H5 c = none := by
  by_cases h1 : c = a
  · rw [h1]; exact ha
  · by_cases h2 : c = dx
    · rw [h2]; exact hd
    · rw [upd_ne h1, upd_ne h2] at h; exact h
theorem cells_rep (n : Nat) : Cells (List.replicate n .non) := fun v h => by rw [List.eq_of_mem_replicate h]; exact .inl rfl
theorem Wo.init {H5 H6 H8 : Hp} (S : Same H0 H5) (P : My.PoolAt H5 p) (fp : H0 p = none) (ha : H5 a = none) (S6 : Same H5 H6) (fb : H5 b = none) (fs : H5 s = none) (fq : H5 q = none) (D : DkB K H6 a dx b s q (List.replicate n .non) (List.replicate n .non) [])
    (S8 : Same H6 H8) (f6 : H6 sf = none) (f8 : H8 sf = some (.lst (List.replicate n .non))) (hq : H8 qu = none) (l1 : 1 ≤ n) (l2 : n ≤ 60) :
    Wo K H0 (upd H8 qu (.lst [])) p a dx b s q sf qu n (List.replicate n .non) (List.replicate n .non) [] [] [] := by
  have S9 := S8.trans (My.Same.new (o := .lst []) (Same.refl H8) hq)
  have P6 := P.sees S6
  have q6 := S8.free hq
  exact ⟨⟨P6.sees S9, D.same S9, .nil, by rw [upd_ne (ne_of_none f8 hq)]; exact f8, upd_same, .nil⟩, S.trans (S6.trans S9), fp, S.free ha, S.free fb, S.free fs, S.free fq, S.free (S6.free f6), S.free (S6.free q6), ne_of_none f8 hq,
    (ne_of_none D.hb f6).symm, (ne_of_none D.hs f6).symm, (ne_of_none D.hq f6).symm, (ne_of_none D.hb q6).symm, (ne_of_none D.hs q6).symm, (ne_of_none D.hq q6).symm, (P.ne fb).symm, (P.ne fs).symm, (P.ne fq).symm, (P6.ne f6).symm, (P6.ne q6).symm,
    List.length_replicate, l1, l2, cells_rep n, fun _ z => (nomatch z), fun _ z => (nomatch z), rfl⟩
end
/-- a statement, then the rest: what stands between -/
theorem x_midg {A B : TS} {nx : L2.St → Hp → Prop} {rt : VK} {bk ct : L2.St → Hp → Prop} {σ : L2.St} {H : Hp} {i : Nat} {v : V} (Mid : L2.St → Hp → Prop) (hB : ∀ σ' H', Mid σ' H' → B ⟨nx, rt, bk, ct⟩ σ' H')
    (hA : ∀ nx', (∀ σ' H', Mid σ' H' → nx' σ' H') → A ⟨nx', rt, bk, ct⟩ (σ.set i (some v)) H) : gName i v σ H (tSeq A B ⟨nx, rt, bk, ct⟩) := hA _ hB
end K01

end

section
local macro_rules | `(tactic| walk_at "ne") => `(tactic| first | assumption | (apply Ne.symm; assumption) | exact L2.ne_of_none (by assumption) (by assumption) | exact (L2.ne_of_none (by assumption) (by assumption)).symm)
local macro_rules | `(tactic| walk_at "hp") => `(tactic| first | assumption | exact L2.upd_same | (rw [L2.upd_ne (by walk_at "ne")]; walk_at "hp"))
local macro_rules | `(tactic| walk_at "sq") => `(tactic| first | assumption | exact L2.SqL.of (by walk_at "hp") | exact My.sq_new (by walk_at "sq") (by assumption))
local macro_rules | `(tactic| walk_at "sd") => `(tactic| first | decide | omega | (unfold L2.CDivN; omega) | (unfold L2.CMul; omega) | (unfold L2.CPow; omega))
local macro_rules | `(tactic| walk_at "sx1") => `(tactic| first | with_reducible refine My.x_seq ?_ | with_reducible refine My.x_asg ?_ | with_reducible refine My.x_ret ?_ | with_reducible refine My.x_next ?_ | with_reducible refine My.x_op ?_ | with_reducible refine My.x_c ?_ | with_reducible refine My.x_ifs ?_ | with_reducible refine My.x_test ?_ | with_reducible refine My.x_exbl ?_ | with_reducible refine My.x_cons ?_ | with_reducible refine My.x_nil ?_ | with_reducible refine My.x_cb ?_ | with_reducible refine My.x_drop ?_ | with_reducible refine My.x_par ?_ | with_reducible refine My.x_exp2 ?_ | with_reducible refine My.x_aug ?_ | with_reducible refine My.x_if ?_ | with_reducible refine My.x_tB ?_ | with_reducible refine My.x_and ?_ | with_reducible refine My.x_or ?_ | with_reducible refine My.x_not ?_ | with_reducible refine My.x_retn ?_ | with_reducible refine My.x_cont ?_ | with_reducible refine My.x_brk ?_ | with_reducible refine My.x_un ?_ | with_reducible refine My.x_tfor ?_ | with_reducible refine My.x_ilist ?_ | with_reducible refine My.x_rng1 ?_ | with_reducible refine My.x_rng2 ?_ | with_reducible refine My.x_r1 ?_ | with_reducible refine My.x_call ?_ | with_reducible refine My.x_sl ?_ | with_reducible refine My.x_part ?_ | with_reducible refine My.x_nopart ?_ | with_reducible refine My.x_ii0 ?_ | with_reducible refine My.x_yes ?_ | with_reducible refine My.x_andv ?_ | with_reducible refine My.x_orv ?_ | with_reducible refine My.x_notv ?_ | with_reducible refine My.x_iT ?_ | with_reducible refine My.x_iF ?_ | with_reducible refine My.x_chain ?_ | with_reducible refine My.x_exI ?_ | with_reducible refine My.x_wipe ?_ | with_reducible refine My.x_bm ?_ | with_reducible refine My.x_bm0 ?_ | with_reducible refine My.x_gsub ?_ | with_reducible refine My.x_int1 ?_ | with_reducible refine My.x_two ?_ | with_reducible refine My.x_lst ?_ | with_reducible refine My.x_tup ?_ | with_reducible refine My.x_revL ?_ | with_reducible refine My.x_dput ?_ | with_reducible refine My.x_dget ?_ | with_reducible refine My.x_dnew ?_ | with_reducible refine My.x_dc ?_ | with_reducible refine My.x_lc ?_ | with_reducible refine My.x_ienum ?_ | with_reducible refine My.x_gcons ?_ | with_reducible refine My.x_gnil ?_ | with_reducible refine My.x_v0 ?_ | with_reducible refine My.x_v1 ?_ | with_reducible refine My.x_v2 ?_ | with_reducible refine My.x_v3 ?_ | with_reducible refine My.x_v4 ?_ | with_reducible refine My.x_v5 ?_ | with_reducible refine My.x_v6 ?_ | with_reducible refine My.x_v7 ?_ | with_reducible refine My.x_v8 ?_ | with_reducible refine My.x_v9 ?_ | with_reducible refine My.x_v10 ?_ | with_reducible refine My.x_v11 ?_ | with_reducible refine My.x_v12 ?_ | with_reducible refine My.x_v13 ?_ | with_reducible refine My.x_v14 ?_ | with_reducible refine My.x_v15 ?_ | with_reducible refine My.x_v16 ?_ | with_reducible refine My.x_v17 ?_ | with_reducible refine My.x_v18 ?_ | with_reducible refine My.x_v19 ?_ | with_reducible refine My.x_v20 ?_ | with_reducible refine My.x_v21 ?_ | with_reducible refine My.x_v22 ?_ | with_reducible refine My.x_v23 ?_ | with_reducible refine My.x_v24 ?_ | with_reducible refine My.x_v25 ?_ | with_reducible refine My.x_g0 ?_ | with_reducible refine My.x_g1 ?_ | with_reducible refine My.x_g2 ?_ | with_reducible refine My.x_g3 ?_ | with_reducible refine My.x_g4 ?_ | with_reducible refine My.x_g5 ?_ | with_reducible refine My.x_g6 ?_ | with_reducible refine My.x_g7 ?_ | with_reducible refine My.x_g8 ?_ | with_reducible refine My.x_g9 ?_ | with_reducible refine My.x_g10 ?_ | with_reducible refine My.x_g11 ?_ | with_reducible refine My.x_g12 ?_ | with_reducible refine My.x_g13 ?_ | with_reducible refine My.x_g14 ?_ | with_reducible refine My.x_g15 ?_ | with_reducible refine My.x_g16 ?_ | with_reducible refine My.x_g17 ?_ | with_reducible refine My.x_g18 ?_ | with_reducible refine My.x_g19 ?_ | with_reducible refine My.x_g20 ?_ | with_reducible refine My.x_g21 ?_ | with_reducible refine My.x_g22 ?_ | with_reducible refine My.x_g23 ?_ | with_reducible refine My.x_g24 ?_ | with_reducible refine My.x_g25 ?_)
local macro_rules | `(tactic| walk_at "sx") => `(tactic| repeat (walk_at "sx1"))
local macro_rules | `(tactic| walk_at "ln") => `(tactic| first | assumption | exact Nat.le_of_ble_eq_true rfl | (simp only [List.length_append, List.length_map, List.length_cons, List.length_nil]; simp only [PySem.sizeLine]; omega))
local macro_rules | `(tactic| walk_at "st") => `(tactic| first | assumption | exact L2.SqT.of (by walk_at "hp"))
local macro_rules | `(tactic| walk_at "go1") => `(tactic| first | walk_at "sx1" | ((with_reducible refine' My.x_ixL ?x0 ?x1 ?x2); (case x0 => walk_at "sq"); (case x1 => exact rfl)) | ((with_reducible refine' My.x_ixT ?x0 ?x1 ?x2); (case x0 => walk_at "st"); (case x1 => exact rfl)) | ((with_reducible refine' My.x_i ?x0 ?x1); (case x0 => walk_at "sd")) | ((with_reducible refine' My.x_setL ?x0 ?x1 ?x2); (case x0 => walk_at "hp"); (case x1 => exact rfl)) | ((with_reducible refine' My.x_len ?x0 ?x1); (case x0 => walk_at "sq")) | ((with_reducible refine' My.x_lenT ?x0 ?x1); (case x0 => walk_at "st")) | ((with_reducible refine' My.x_lenD ?x0 ?x1); (case x0 => walk_at "hp")) | ((with_reducible refine' My.x_append ?x0 ?x1 ?x2); (case x0 => walk_at "hp"); (case x1 => walk_at "ln")) | ((with_reducible refine' My.x_tyL ?x0 ?x1); (case x0 => walk_at "hp")) | ((with_reducible refine' My.x_ilistE ?x0 ?x1); (case x0 => walk_at "sq")) | ((with_reducible refine' My.x_ienumE ?x0 ?x1); (case x0 => walk_at "sq")) | ((with_reducible refine' My.x_sortI ?x0 ?x1); (case x0 => walk_at "sq")) | ((with_reducible refine' My.x_slL ?x0 ?x1); (case x0 => walk_at "sq")) | ((with_reducible refine' My.x_revL2 ?x0 ?x1); (case x0 => walk_at "sq")) | ((with_reducible refine' My.x_eq ?x0 ?x1); (case x0 => exact rfl)) | ((with_reducible refine' My.x_ne ?x0 ?x1); (case x0 => exact rfl)) | ((with_reducible refine' My.x_dputI ?x0 ?x1 ?x2); (case x0 => walk_at "hp"); (case x1 => walk_at "ln")) | ((with_reducible refine' My.x_dputS ?x0 ?x1 ?x2); (case x0 => walk_at "hp"); (case x1 => walk_at "ln")) | ((with_reducible refine' My.x_seqof ?x0 ?x1); (case x0 => walk_at "sq")) | ((with_reducible refine' My.x_gtup ?x0 ?x1 ?x2); (case x0 => walk_at "st"); (case x1 => exact rfl)) | ((with_reducible refine' My.x_mem1 ?x0 ?x1); (case x0 => walk_at "ln")))
local macro_rules | `(tactic| walk_at "go") => `(tactic| repeat (walk_at "go1"))
local macro_rules | `(tactic| walk_at "sx1") => `(tactic| first | with_reducible refine My.x_gx ?_ | with_reducible refine My.x_gxK ?_ | with_reducible refine My.x_gi ?_ | with_reducible refine My.x_gst ?_ | with_reducible refine My.x_xg ?_ | with_reducible refine My.x_nF ?_ | with_reducible refine My.x_nT ?_ | with_reducible refine My.x_fld ?_ | with_reducible refine My.x_sfld ?_ | with_reducible refine My.x_meth ?_ | with_reducible refine My.x_make ?_ | with_reducible refine My.x_din ?_ | with_reducible refine My.x_dnin ?_ | with_reducible refine My.x_ikeys ?_ | with_reducible refine My.x_itup ?_ | with_reducible refine My.x_mkO ?_ | with_reducible refine My.x_vei ?_ | with_reducible refine My.x_ost ?_ | with_reducible refine My.x_nF ?_ | with_reducible refine My.x_nT ?_)
local macro_rules | `(tactic| walk_at "go1") => `(tactic| first | ((with_reducible refine' My.x_fldE ?x0 ?x1 ?x2 ?x3 ?x4); (case x0 => walk_at "hp"); (case x1 => assumption); (case x2 => assumption); (case x3 => exact rfl)) | ((with_reducible refine' My.x_sfldE ?x0 ?x1 ?x2 ?x3 ?x4 ?x5); (case x0 => walk_at "hp"); (case x1 => assumption); (case x2 => assumption); (case x3 => decide); (case x4 => exact rfl)) | ((with_reducible refine' My.x_methE ?x0 ?x1 ?x2); (case x0 => walk_at "hp"); (case x1 => exact rfl)) | ((with_reducible refine' My.x_itupE ?x0 ?x1); (case x0 => walk_at "st")))
namespace K01
open PySem PySem.Spec PyProof.Rows L2
def rTil : R2 := fun x y H Q => x = .str ("~" : Str) ∧ y = .int 4000 ∧ Q (.str tilde) H
theorem op_til {X : Cx} : OpR X (binaryOp .Mult) rTil := by
  intro pins s σ H x y v u Q I rx ry h
  obtain ⟨rfl, rfl, q⟩ := h
  obtain ⟨t, rfl⟩ := rx
  obtain ⟨t', rfl⟩ := ry
  refine PySem.P.mul_str (by decide +kernel) (fun _ _ => by decide +kernel) (fun _ _ => by decide +kernel) ?_
  rw [if_neg (by decide), if_neg (by decide +kernel)]
  have e : ((List.replicate (4000 : Int).toNat ("~" : Str).cps).foldl (· ++ ·) #[]) = (List.replicate 4000 126).toArray := by
    have := fold_app 126 4000 #[]
    rw [show ("~" : Str).cps = #[126] by decide +kernel, show (4000 : Int).toNat = 4000 from rfl, this]
    simp
  rw [e]
  exact ⟨by decide +kernel, ⟨.str tilde, H, I.tok _, ⟨_, rfl⟩, q⟩⟩
theorem ix_tupK {X : Cx} {K : PySem.W.Frag} (h : X.K = K) : IxR X (rIxT K) := h ▸ ix_tup
theorem x_par3 {ta : TA} {i j l : Nat} {nx : L2.St → Hp → Prop} {rt : VK} {bk ct : L2.St → Hp → Prop} {σ : L2.St} {H : Hp} (h : ta σ H fun vs H1 => ∃ u v w, vs = [u, v, w] ∧ nx (((σ.set i (some u)).set j (some v)).set l (some w)) H1) : tPar3 i j l ta ⟨nx, rt, bk, ct⟩ σ H := h
def sp_law (K : PySem.W.Frag) : Sp := fun vs H Q _ => ∃ (a : Addr) (ns : List Int), vs = [.ref a] ∧ SqL K H a (ns.map V.int) ∧ ns.length ≤ 63 ∧ ∀ H', Q (.bl true) H'
section
variable {P : Program} {w : World} {K : PySem.W.Frag} {mg : Str → Option Value} {base : Heap} {t1 t2 : Tok}
theorem ok_law (T : Tx K mg t1 t2) {fd : FuncData} (F : Fd K d_law fd) (C_law_pool : My.Cl P w K mg base "_law_pool" ["_law_script", "_law_k"] 1 (My.sp_pool K)) (C_law_draw : My.Cl P w K mg base "_law_draw" ["_law_pool_here", "_law_many"] 1 My.sp_draw)
    (C_law_choose : My.Cl P w K mg base "_law_choose" ["_law_pool_here", "_law_items"] 2 sp_choose)
    (C_law_held : My.Cl P w K mg base "_law_held" ["_law_disk"] 6 (sp_held K)) (C_law_after : My.Cl P w K mg base "_law_after" ["_law_safe", "_law_queue", "_law_stay", "_law_rip"] 1 (sp_after K))
    (M_D : My.Mx P w K mg base CX0 "Disk" ["self", "size"] 3 (sp_init K) []) (C_flush : My.Cm P w K mg base CX0 "Disk" "flush" ["self"] 4 (sp_flush K)) (C_lose : My.Cm P w K mg base CX0 "Disk" "lose" ["self", "block"] 4 (sp_lose K))
    (C_write : My.Cm P w K mg base CX0 "Disk" "write" ["self", "block", "text"] 4 (sp_write K)) (S_len : My.Spc P w K mg base CX0 (CD K) "__len__" ["self"] 1 (sp_len K))
    (P_pending : Pr P w K mg base "Disk" "pending" ["self"] 1 (sp_pend K)) (S_eq : My.Spc P w K mg base CX0 (CD K) "__eq__" ["self", "other"] 1 (sp_eq K))
    (C_law_check_losses : My.ClG P w K mg base CX0 "_law_check_losses" ["_law_pool_here", "_law_disk", "_law_safe", "_law_queue"] 11 (sp_losses K)) :
    My.FnG P w K mg base CX0 13 (He.fAd K d_law.at_) fd ["_law_script"] (sp_law K) := by
  refine My.FunD.okG F sc_law (fun vs H Q E h => ?_) (fun cdv A outer s H vs Q E hg hr h => ?_)
  · obtain ⟨a, ns, rfl, _⟩ := h
    rfl
  · obtain ⟨a0, ns, rfl, hS, hns, h⟩ := h
    have hg0 := hg
    refine ⟨_, PSs.nox ((pss_cons (ps_for PassesOwn.never rfl (pi_range1 rfl T.n_range (pa_cons (pe_callB (call_max2 rfl) (by rfl) T.n_max (by decide +kernel) (pa_cons pe_int (pa_cons (pe_callB (call_min2 rfl) (by rfl) T.n_min (by decide +kernel) (pa_cons (pe_callB call_len_seq (by rfl) T.n_len (by decide +kernel) (pa_cons (pv 0) pa_nil)) (pa_cons pe_int pa_nil))) pa_nil))) pa_nil)) (pg_name (i := 1) sc_law.nd rfl (Or.inl rfl))
  (pss_cons (ps_set (i := 2) sc_law.nd rfl (Or.inl rfl) (My.pe_cl C_law_pool (hr.mono (by decide)) rfl (pa_cons (pv 0) (pa_cons (pv 1) pa_nil))))
  (pss_cons (ps_set (i := 3) sc_law.nd rfl (Or.inl rfl) (My.pe_cl C_law_choose (hr.mono (by decide)) rfl (pa_cons (pv 2) (pa_cons (pe_lst (pa_cons pe_int (pa_cons pe_int (pa_cons pe_int (pa_cons pe_int pa_nil))))) pa_nil))))
  (pss_cons (ps_par3 (i := 4) (j := 5) (l := 6) (by rfl) sc_law.nd rfl rfl rfl (by decide) (by decide) (by decide) rfl rfl rfl (pa_cons (My.pe_mx M_D (hr.mono (by decide)) rfl pass0 (pa_cons (pv 3) pa_nil)) (pa_cons (pe_op op_rep (pe_lst (pa_cons pe_non pa_nil)) (pv 3)) (pa_cons (pe_lst pa_nil) pa_nil))) (by rfl))
  (pss_cons (ps_for PassesOwn.never rfl (pi_range1 rfl T.n_range (pa_cons pe_int pa_nil)) (pg_name (i := 7) sc_law.nd rfl (Or.inl rfl))
  (pss_cons (ps_asg (pe_tup (pa_cons (My.pe_cl C_law_draw (hr.mono (by decide)) rfl (pa_cons (pv 2) (pa_cons (pv 3) pa_nil))) (pa_cons (My.pe_cl C_law_choose (hr.mono (by decide)) rfl (pa_cons (pv 2) (pa_cons (pe_lst (pa_cons pe_str (pa_cons pe_str (pa_cons pe_str (pa_cons (pe_op op_til pe_str pe_int) pa_nil))))) pa_nil))) pa_nil))) (pg_tup (n := 2) (by rfl) (pgs_cons (pg_name (i := 8) sc_law.nd rfl (Or.inr rfl)) (pgs_cons (pg_name (i := 9) sc_law.nd rfl (Or.inl rfl)) pgs_nil))))
  (pss_cons (ps_set (i := 10) sc_law.nd rfl (Or.inl rfl) (My.pe_cl C_law_draw (hr.mono (by decide)) rfl (pa_cons (pv 2) (pa_cons pe_int pa_nil))))
  (pss_cons (ps_if (pt_cmpR op_eq (pv 10) pe_int (nomark _))
  (pss_cons (ps_expr (My.pe_cm0 C_flush (hr.mono (by decide)) pass0 (pv 4)))
  (pss_one (ps_par (i := 5) (j := 6) (by rfl) sc_law.nd rfl rfl (by decide) rfl rfl (pa_cons (My.pe_cl C_law_after (hr.mono (by decide)) rfl (pa_cons (pv 5) (pa_cons (pv 6) (pa_cons (pe_listRg rfl (by rfl) T.n_list (prg_1 (by rfl) T.n_range (pe_callB call_len_seq (by rfl) T.n_len (by decide +kernel) (pa_cons (pv 6) pa_nil)))) (pa_cons (pe_lst pa_nil) pa_nil))))) (pa_cons (pe_lst pa_nil) pa_nil)) (by rfl))))
  (pss_one (ps_if (pt_cmpR op_eq (pv 10) pe_int (nomark _))
  (pss_cons (ps_expr (My.pe_cm C_lose (hr.mono (by decide)) pass0 (pv 4) (pa_cons (pv 8) pa_nil)))
  (pss_cons (ps_asg pe_non (pg_sub (pv 5) (pv 8) set_list))
  (pss_one (ps_setLc (i := 6) (own := [("_law_row", 12)]) (g := gName 12)  rfl sc_law.nd rfl rfl (sw_true rfl rfl rfl (by decide +kernel)) (pi_list (pv 6)) (blkOk_by (own := [("_law_row", 12)]) (N := ["_law_script", "_law_k", "_law_pool_here", "_law_size", "_law_disk", "_law_safe", "_law_queue", "_law_turn", "_law_block", "_law_text", "_law_way", "_law_now", "_law_row"]) (sc := defScope s_law) (by decide +kernel)) (fun _ _ _ _ _ => pg_name (i := 12) sc_law.nd rfl (Or.inl rfl)) (fun _ _ _ _ _ => pts_one (pt_cmpR op_ne (pe_ix (ix_tupK (K := K) (by rfl)) (pv 12) pe_int (fun _ _ => rfl)) (pv 8) (nomark _))) (fun _ _ _ _ _ => (pv 12))))))
  (pss_cons (ps_expr (My.pe_cm C_write (hr.mono (by decide)) pass0 (pv 4) (pa_cons (pv 8) (pa_cons (pv 9) pa_nil))))
  (pss_one (ps_expr (pe_bm PySem.F.plainAttrs_list PySem.F.slot_list_append PySem.F.type_list_append mt_append (pv 6) (pa_cons (pe_tup (pa_cons (pv 8) (pa_cons (pv 9) pa_nil))) pa_nil))))))))
  (pss_cons (ps_set (i := 11) sc_law.nd rfl (Or.inl rfl) (My.pe_cl C_law_after (hr.mono (by decide)) rfl (pa_cons (pv 5) (pa_cons (pv 6) (pa_cons (pe_listRg rfl (by rfl) T.n_list (prg_1 (by rfl) T.n_range (pe_callB call_len_seq (by rfl) T.n_len (by decide +kernel) (pa_cons (pv 6) pa_nil)))) (pa_cons (pe_lst pa_nil) pa_nil))))))
  (pss_cons (ps_if (pt_cmpR (op_neD hr.units) (My.pe_cl C_law_held (hr.mono (by decide)) rfl (pa_cons (pv 4) pa_nil)) (pv 11) (nomark _))
  (pss_one (ps_ret pe_bl))
  pss_nil)
  (pss_cons (ps_if (PW.pt (pw_or (pt_cmpR (op_neD hr.units) (pe_pr P_pending (hr.mono (by decide)) (pv 4) (by rfl)) (pe_lc (own := [("_law_row", 12)]) (g := gName 12) (tt := tYes) rfl sc_law.nd (pi_list (pv 6)) (blkOk_by (own := [("_law_row", 12)]) (N := ["_law_script", "_law_k", "_law_pool_here", "_law_size", "_law_disk", "_law_safe", "_law_queue", "_law_turn", "_law_block", "_law_text", "_law_way", "_law_now", "_law_row"]) (sc := defScope s_law) (by decide +kernel)) (fun _ _ _ _ _ => pg_name (i := 12) sc_law.nd rfl (Or.inl rfl)) (fun _ _ _ _ _ => pts_nil) (fun _ _ _ _ _ => (pe_ix (ix_tupK (K := K) (by rfl)) (pv 12) pe_int (fun _ _ => rfl)))) (nomark _)) (pw_or1 (pt_cmpR op_ne (pe_callB (My.call_lenO S_len (hr.mono (by decide)) pass0) (by rfl) T.n_len (by decide +kernel) (pa_cons (pv 4) pa_nil)) (pv 3) (nomark _)))))
  (pss_one (ps_ret pe_bl))
  pss_nil)
  (pss_cons (ps_if (PW.pt (pw_and (pt_cmpR op_eq (pe_op op_modN (pv 7) pe_int) pe_int (nomark _)) (pw_and1 (pt_not (pt_val (My.pe_clG C_law_check_losses (by exact hg0) (hr.mono (by decide)) pass0 rfl (pa_cons (pv 2) (pa_cons (pv 4) (pa_cons (pv 5) (pa_cons (pv 6) pa_nil))))))))))
  (pss_one (ps_ret pe_bl))
  pss_nil)
  (pss_one (ps_expr (pe_bm PySem.F.plainAttrs_list PySem.F.slot_list_append PySem.F.type_list_append mt_append (pe_pr P_pending (hr.mono (by decide)) (pv 4) (by rfl)) (pa_cons pe_non pa_nil))))))))))))
  (pss_cons (ps_if (PW.pt (pw_or (pt_cmpR (My.op_eqO S_eq (hr.mono (by decide)) pass0 (tyD T.sI T.sL)) (pv 4) pe_int (nomark _)) (pw_or1 (pt_cmpR (My.op_eqO S_eq (hr.mono (by decide)) pass0 (tyD T.sI T.sL)) (pv 4) (pe_lst (pa_cons (pv 4) pa_nil)) (nomark _)))))
  (pss_one (ps_ret pe_bl))
  pss_nil)
  (pss_one (ps_if (PW.pt (pw_or (pt_cmpR op_ne (pe_cmpR (My.op_eqO S_eq (hr.mono (by decide)) pass0 (tyD T.sI T.sL)) (pv 4) (My.pe_mx M_D (hr.mono (by decide)) rfl pass0 (pa_cons (pv 3) pa_nil)) (nomark _)) (pe_cmpR (op_eqD hr.units) (pv 11) (pe_op op_rep (pe_lst (pa_cons pe_non pa_nil)) (pv 3)) (nomark _)) (nomark _)) (pw_or1 (pt_cmpR (My.op_eqO S_eq (hr.mono (by decide)) pass0 (tyD T.sI T.sL)) (pv 4) (My.pe_mx M_D (hr.mono (by decide)) rfl pass0 (pa_cons (pe_op op_add (pv 3) pe_int) pa_nil)) (nomark _)))))
  (pss_one (ps_ret pe_bl))
  pss_nil))))))))
  (pss_one (ps_ret pe_bl)))), ?_⟩
    refine My.x_start (σ := [some (V.ref a0), none, none, none, none, none, none, none, none, none, none, none, none]) rfl ?_
    try dsimp only [cxOf, Cx.nox]
    walk_at "go"
    rw [List.length_map]
    refine My.x_rng1E (by omega) (by omega) ?_
    refine My.for_runs (My.runs_rng 0 _) (fun pre σ' H' => (∃ o1 o2 o3 o4 o5 o6 o7 o8 o9 o10 o11 o12, σ' = [some (V.ref a0), o1, o2, o3, o4, o5, o6, o7, o8, o9, o10, o11, o12]) ∧ Same H H') ⟨⟨_, _, _, _, _, _, _, _, _, _, _, _, rfl⟩, Same.refl H⟩ (fun pre post σ' H' _ z => trivial) ?_ ?_
    · rintro pre x post σ' H1 v H2 hpre ⟨⟨o1, o2, o3, o4, o5, o6, o7, o8, o9, o10, o11, o12, rfl⟩, S1⟩ ⟨rfl, hx, hlt, rfl⟩
      walk_at "go"
      refine My.x_pool (S1.seq hS) (by omega) (by omega) fun p H3 hp P3 B3 => ?_
      have fp : H p = none := S1.free hp
      have S3 : Same H H3 := B3.same S1 fp
      clear S1 B3 hp
      walk_at "go"
      intro L hL
      have P4 := P3.new (o := .lst [V.int 1, V.int 2, V.int 5, V.int 60]) hL
      have S4 := My.Same.new (o := .lst [V.int 1, V.int 2, V.int 5, V.int 60]) S3 hL
      refine ⟨p, L, _, rfl, P4, upd_same, (P3.ne hL).symm, by decide, by decide, fun y H5 hy P5 B5 => ?_⟩
      have S5 : Same H H5 := B5.same S4 fp
      clear P4 S4 B5 hL P3 S3
      obtain ⟨n, rfl, l1, l2⟩ : ∃ n : Nat, y = .int n ∧ 1 ≤ n ∧ n ≤ 60 := by
        simp only [List.mem_cons, List.not_mem_nil, or_false] at hy
        rcases hy with rfl | rfl | rfl | rfl
        · exact ⟨1, rfl, by decide, by decide⟩
        · exact ⟨2, rfl, by decide, by decide⟩
        · exact ⟨5, rfl, by decide, by decide⟩
        · exact ⟨60, rfl, by decide, by decide⟩
      clear hy
      walk_at "go"
      refine x_par3 ?_
      walk_at "go"
      intro a dx ha hdx hne
      refine ⟨a, dx, (n : Int), rfl, upd_same, by omega, by omega, fun b s' q H6 k6 nb ns' nq D6 => ⟨rfl, ?_⟩⟩
      rw [Int.toNat_natCast] at D6
      have S6 := made_same ha hdx k6
      replace nb := made_free ha hdx nb
      replace ns' := made_free ha hdx ns'
      replace nq := made_free ha hdx nq
      clear k6 hne
      walk_at "go"
      intro L hL
      have S7 := My.Same.new (o := .lst [V.non]) (Same.refl H6) hL
      have e7 : upd H6 L (.lst [V.non]) L = some (.lst [V.non]) := upd_same
      generalize upd H6 L (.lst [V.non]) = H7 at S7 e7 ⊢
      walk_at "go"
      refine ⟨L, n, _, rfl, rfl, e7, by omega, by omega, by rw [sizeLine_eq, List.length_singleton]; omega, fun sf hsf => ?_⟩
      rw [flat_rep, Int.toNat_natCast]
      have f6 := S7.free hsf
      have S8 := S7.trans (My.Same.new (o := .lst (List.replicate n .non)) (Same.refl H7) hsf)
      have f8 : upd H7 sf (.lst (List.replicate n .non)) sf = some (.lst (List.replicate n .non)) := upd_same
      generalize upd H7 sf (.lst (List.replicate n .non)) = H8 at S8 f8 ⊢
      walk_at "go"
      intro qu hqu
      have W9 := Wo.init (qu := qu) S5 P5 fp ha S6 nb ns' nq D6 S8 f6 f8 hqu l1 l2
      generalize upd H8 qu (.lst []) = H9 at W9 ⊢
      clear hqu S8 f8 f6 S7 e7 hL hsf S6 D6 nb ns' nq ha hdx P5 S5
      refine ⟨_, _, _, rfl, ?_⟩
      simp only [List.set_cons_succ, List.set_cons_zero]
      walk_at "go"
      refine My.x_rng1E (by omega) (by omega) ?_
      refine My.for_runs (My.runs_rng 0 _) (fun pre σ' H' => ∃ o7 o8 o9 o10 o11 o12 dx b s' q sf qu bs ss ts us qs, σ' = [some (V.ref a0), some (V.int (0 + (x : Int))), some (V.ref p), some (V.int (n : Nat)), some (V.ref a), some (V.ref sf), some (V.ref qu), o7, o8, o9, o10, o11, o12] ∧
        Wo K H H' p a dx b s' q sf qu n bs ss ts us qs ∧ ts.length ≤ pre.length ∧ (0 < pre.length → ∃ nw, o11 = some (V.ref nw) ∧ H' nw = some (.lst ss)))
        ⟨_, _, _, _, _, _, _, _, _, _, _, _, _, _, _, _, _, rfl, W9, Nat.le_refl _, fun z => absurd z (by decide)⟩ (fun pre post σ' H' _ z => trivial) ?_ ?_
      · clear W9
        rintro pre2 x2 post2 σ' H1 v H2 hpre2 ⟨o7, o8, o9, o10, o11, o12, dx, b, s', q, sf, qu, bs, ss, ts, us, qs, rfl, W, lts, _⟩ ⟨rfl, hx2, hlt2, rfl⟩
        have hk : pre2.length < 20 := hlt2
        walk_at "go"
        refine My.x_draw W.L.P (by omega) (by omega) fun d H3 d0 d1 P3 B3 => ?_
        obtain ⟨d, rfl⟩ := Int.eq_ofNat_of_zero_le d0
        have hd : d < n := by omega
        have W3 := W.but B3 P3
        clear W B3 P3 d0 d1
        walk_at "go"
        refine ⟨rfl, rfl, ?_⟩
        walk_at "go"
        intro L hL
        have P4 := W3.L.P.new (o := .lst [V.str (Str.ofString ""), V.str (Str.ofString "a"), V.str (Str.ofString "b c"), V.str tilde]) hL
        have W4 := W3.same (My.Same.new (o := .lst [V.str (Str.ofString ""), V.str (Str.ofString "a"), V.str (Str.ofString "b c"), V.str tilde]) (Same.refl H3) hL)
        refine ⟨p, L, _, rfl, P4, upd_same, (W3.L.P.ne hL).symm, by decide, by decide, fun y H5 hy P5 B5 => ?_⟩
        have W5 := W4.but B5 P5
        clear P4 W4 W3 P5 B5 hL
        obtain ⟨z, rfl, hz⟩ : ∃ z : Str, y = .str z ∧ z ∈ T4 := by
          simp only [List.mem_cons, List.not_mem_nil, or_false] at hy
          rcases hy with rfl | rfl | rfl | rfl
          · exact ⟨_, rfl, by simp [T4]⟩
          · exact ⟨_, rfl, by simp [T4]⟩
          · exact ⟨_, rfl, by simp [T4]⟩
          · exact ⟨_, rfl, by simp [T4]⟩
        clear hy
        walk_at "go"
        intro tp htp
        have W6 := W5.same (My.Same.new (o := .tup [V.int d, V.str z]) (Same.refl H5) htp)
        refine My.x_gtup (SqT.of upd_same) rfl ?_
        generalize upd H5 tp (.tup [V.int d, V.str z]) = H6 at W6 ⊢
        clear W5 htp
        walk_at "go"
        refine My.x_draw W6.L.P (by omega) (by omega) fun wy H7 w0 w1 P7 B7 => ?_
        have W7 := W6.but B7 P7
        clear W6 B7 P7
        refine x_midg (fun σ' H' => ∃ o10 o11 o12 dx b s' q sf qu bs ss ts us qs, σ' = [some (V.ref a0), some (V.int (0 + (x : Int))), some (V.ref p), some (V.int (n : Nat)), some (V.ref a), some (V.ref sf), some (V.ref qu), some (V.int (0 + (x2 : Int))), some (V.int d), some (V.str z), o10, o11, o12] ∧
          Wo K H H' p a dx b s' q sf qu n bs ss ts us qs ∧ ts.length ≤ pre2.length + 1) ?_ ?_
        · clear W7
          rintro σ' H8 ⟨o10, o11, o12, dx, b, s', q, sf, qu, bs, ss, ts, us, qs, rfl, W, lts⟩
          have hlb := W.lb
          have hul := W.lts.1
          have htl := W.lts.2
          have hls := W.ls
          have hlt8 : ∀ x ∈ qs, x.1 < bs.length := fun x hx => by rw [hlb]; exact W.lt x hx
          have u8 := W.L.qu
          walk_at "go"
          unfold tLstRg tRg1
          walk_at "go"
          rw [List.length_map, hul]
          refine ⟨RgOk.of_le (by omega) (by omega) (by omega) (by omega), fun rg hrg => ?_⟩
          rw [rgV_all]
          have W9 := W.same (My.Same.new (o := .lst ((allI qs.length).map V.int)) (Same.refl H8) hrg)
          have e9 : upd H8 rg (.lst ((allI qs.length).map V.int)) rg = some (.lst ((allI qs.length).map V.int)) := upd_same
          generalize upd H8 rg (.lst ((allI qs.length).map V.int)) = H9 at W9 e9 ⊢
          clear hrg W u8
          walk_at "go"
          intro l0 hl0
          have W10 := W9.same (My.Same.new (o := .lst []) (Same.refl H9) hl0)
          have e10 := My.Same.new (o := .lst []) (Same.refl H9) hl0 _ _ e9
          have l10 : upd H9 l0 (.lst []) l0 = some (.lst (([] : List Int).map V.int)) := upd_same
          generalize upd H9 l0 (.lst []) = H10 at W10 e10 l10 ⊢
          clear W9 e9 hl0
          walk_at "go"
          refine ⟨sf, qu, rg, l0, bs, us, qs, allI qs.length, [], rfl, W10.L.sf, W10.L.qu, W10.L.Q2, SqL.of e10, SqL.of l10, hlt8, by omega, fun nw H11 hnw S11 e11 => ?_⟩
          rw [aft_all, ← W10.e] at e11
          have W11 := W10.same S11
          have nwp : nw ≠ p := (W10.L.P.ne hnw).symm
          clear W10 e10 l10 S11 hnw
          walk_at "go"
          refine ⟨a, dx, b, s', q, bs, ss, ts, rfl, W11.L.D, by omega, by omega, fun hp H12 _ S12 e12 => ?_⟩
          have W12 := W11.same S12
          have n12 := S12 _ _ e11
          clear W11 S12 e11
          walk_at "go"
          refine x_neS (SqL.of e12) (SqL.of n12) W12.cs rfl ?_
          clear e12
          walk_at "go"
          refine ⟨_, rfl, a, dx, _, rfl, W12.L.D.ha, a, dx, b, s', q, bs, ss, ts, qs, rfl, W12.L.D, W12.L.Q, by omega, fun pp H13 _ S13 e13 => ?_⟩
          have W13 := W12.same S13
          have n13 := S13 _ _ n12
          clear W12 S13 n12
          have u13 := W13.L.qu
          walk_at "go"
          intro Lq hLq
          refine My.lc_runs (My.runs_list (K := K) (a := qu) V.ref us) (fun pre H' => Same H13 H' ∧ H' Lq = some (.lst ((qs.take pre.length).map fun p => .int (p.1 : Nat)))) ⟨My.Same.new (Same.refl H13) hLq, upd_same⟩ (fun pre post H' _ z => SqL.of (z.1 _ _ u13)) ?_ ?_
          · rintro pre3 t post3 H14 v H15 hpre3 ⟨S14, gL⟩ ⟨rfl, rfl⟩
            obtain ⟨pr, hpr, ht⟩ := W13.L.Q2.at pre3.length t (by rw [hpre3]; simp)
            have t14 := S14 _ _ ht
            simp only [List.map_cons, List.map_nil, wipe, List.set_cons_succ, List.set_cons_zero]
            walk_at "go"
            refine ⟨rfl, ?_⟩
            walk_at "go"
            refine ⟨_, gL, by rw [List.length_map, List.length_take, sizeLine_eq]; omega, My.Same.mut S14 hLq, ?_⟩
            rw [upd_same, List.length_append, List.length_singleton, List.take_add_one, hpr, List.map_append]
            rfl
          · rintro H14 ⟨S14, gL⟩
            rw [hul, List.take_length] at gL
            have W14 := W13.same S14
            have n14 := S14 _ _ n13
            have e14 := S14 _ _ e13
            clear W13 n13 e13 u13 S14 hLq
            have enum : (qs.map fun p => V.int (p.1 : Nat)) = (qs.map fun p => ((p.1 : Nat) : Int)).map V.int := by rw [List.map_map]; rfl
            rw [enum] at gL e14
            refine My.x_neI (SqL.of e14) (SqL.of gL) ?_
            clear e14 gL
            simp only [decide_true, Bool.not_true]
            walk_at "go"
            refine ⟨a, dx, _, rfl, W14.L.D.ha, a, dx, b, s', q, bs, ss, ts, rfl, W14.L.D, _, rfl, by omega, by omega, ?_⟩
            rw [hlb]
            walk_at "go"
            have e : (!decide (V.int (n : Nat) = V.int (n : Nat))) = false := by simp
            rw [e]
            walk_at "go"
            refine My.x_dec (fun h4 => ?_) (fun h4 => ?_)
            · walk_at "go"
              refine ⟨p, a, dx, b, s', q, sf, qu, bs, ss, ts, us, qs, rfl, W14.L, W14.lc (by omega), fun H15 P15 B15 => ?_⟩
              have W15 := W14.bar B15 P15
              have n15 := B15 _ _ nwp n14
              walk_at "go"
              refine ⟨_, rfl, a, dx, _, rfl, W15.L.D.ha, a, dx, b, s', q, bs, ss, ts, qs, rfl, W15.L.D, W15.L.Q, by omega, fun pe H16 npe S16 e16 => ?_⟩
              have hq20 : qs.length ≤ 20 := by omega
              walk_at "go"
              have S17 := My.Same.mut (o := .lst ((qs.map fun p => V.int (p.1 : Nat)) ++ [V.non])) S16 npe
              exact ⟨_, _, _, _, _, _, dx, b, s', q, sf, qu, bs, ss, ts, us, qs, rfl, W15.same S17, by rw [List.length_append, List.length_singleton]; exact lts, fun _ => ⟨nw, rfl, S17 _ _ n15⟩⟩
            · have W15 := W14
              have n15 := n14
              walk_at "go"
              refine ⟨_, rfl, a, dx, _, rfl, W15.L.D.ha, a, dx, b, s', q, bs, ss, ts, qs, rfl, W15.L.D, W15.L.Q, by omega, fun pe H16 npe S16 e16 => ?_⟩
              have hq20 : qs.length ≤ 20 := by omega
              walk_at "go"
              have S17 := My.Same.mut (o := .lst ((qs.map fun p => V.int (p.1 : Nat)) ++ [V.non])) S16 npe
              exact ⟨_, _, _, _, _, _, dx, b, s', q, sf, qu, bs, ss, ts, us, qs, rfl, W15.same S17, by rw [List.length_append, List.length_singleton]; exact lts, fun _ => ⟨nw, rfl, S17 _ _ n15⟩⟩
        · intro nx' hnx
          simp only [List.set_cons_succ, List.set_cons_zero]
          have hlb := W7.lb
          have hul := W7.lts.1
          have htl := W7.lts.2
          have hls := W7.ls
          have hlt7 : ∀ x ∈ qs, x.1 < bs.length := fun x hx => by rw [hlb]; exact W7.lt x hx
          walk_at "go"
          by_cases h0 : wy = 0
          · have e : decide (V.int wy = V.int 0) = true := by rw [h0]; rfl
            rw [e]
            walk_at "go"
            refine ⟨a, dx, _, rfl, W7.L.D.ha, rfl, ?_⟩
            walk_at "go"
            refine ⟨a, dx, b, s', q, bs, ss, ts, qs, rfl, W7.L.D, W7.L.Q, hlt7, by omega, fun q' H8 nq' k8 D8 => ?_⟩
            obtain ⟨f8, u8, Q8, P8, S8⟩ := W7.rest fun c o h1 h2 _ _ h => k8 c o h1 h2 h
            walk_at "go"
            unfold tLstRg tRg1
            walk_at "go"
            rw [List.length_map, hul]
            refine ⟨RgOk.of_le (by omega) (by omega) (by omega) (by omega), fun rg hrg => ?_⟩
            rw [rgV_all]
            have S9 := My.Same.new (o := .lst ((allI qs.length).map V.int)) (Same.refl H8) hrg
            have e9 : upd H8 rg (.lst ((allI qs.length).map V.int)) rg = some (.lst ((allI qs.length).map V.int)) := upd_same
            generalize upd H8 rg (.lst ((allI qs.length).map V.int)) = H9 at S9 e9 ⊢
            clear hrg
            walk_at "go"
            intro l0 hl0
            have S10 := S9.trans (My.Same.new (o := .lst []) (Same.refl H9) hl0)
            have e10 := My.Same.new (o := .lst []) (Same.refl H9) hl0 _ _ e9
            have l10 : upd H9 l0 (.lst []) l0 = some (.lst (([] : List Int).map V.int)) := upd_same
            generalize upd H9 l0 (.lst []) = H10 at S10 e10 l10 ⊢
            clear S9 e9 hl0
            walk_at "go"
            refine ⟨sf, qu, rg, l0, bs, us, qs, allI qs.length, [], rfl, S10 _ _ f8, S10 _ _ u8, Q8.same S10, SqL.of e10, SqL.of l10, hlt7, by omega, fun sf' H11 hsf' S11 e11 => ?_⟩
            rw [aft_all] at e11
            have S11' := S10.trans S11
            have hs8 := S10.free hsf'
            clear S10 S11 e10 l10 hsf'
            walk_at "go"
            intro qu' hqu'
            walk_at "go"
            exact hnx _ _ ⟨_, _, _, dx, b, s', q', sf', qu', wr bs qs, ss, [], [], [], rfl, W7.flushed nq' k8 D8 hs8 S11' e11 hqu', Nat.zero_le _⟩
          · have e : decide (V.int wy = V.int 0) = false := decide_eq_false fun z => by injection z with z; exact h0 z
            rw [e]
            walk_at "go"
            by_cases h1 : wy = 1
            · have e : decide (V.int wy = V.int 1) = true := by rw [h1]; rfl
              rw [e]
              walk_at "go"
              refine ⟨a, dx, _, rfl, W7.L.D.ha, rfl, ?_⟩
              walk_at "go"
              refine ⟨a, dx, b, s', q, bs, ss, ts, qs, d, rfl, W7.L.D, W7.L.Q, by omega, by omega, by omega, fun q' ts' H8 nq' k8 D8 Q8' => ?_⟩
              obtain ⟨f8, u8, Q8, P8, S8⟩ := W7.rest fun c o h1 h2 h3 _ h => k8 c o h1 h2 h3 h
              walk_at "go"
              refine ⟨sf, bs, d, d, rfl, rfl, f8, ixN_at (by omega), ?_⟩
              have u9 : upd H8 sf (.lst (bs.set d .non)) qu = some (.lst (us.map V.ref)) := by rw [upd_ne W7.nfu.symm]; exact u8
              have Q9 : Qs (upd H8 sf (.lst (bs.set d .non))) us qs := Q8.imp fun t x h => by rw [upd_ne fun z => by rw [z, f8] at h; cases h]; exact h
              have fin := @Wo.lost K H H7 H8 (hd := hd) (W := W7) (hq := nq') (k := k8) (D1 := D8) (Q1 := Q8')
              generalize upd H8 sf (.lst (bs.set d .non)) = H9 at u9 Q9 fin ⊢
              walk_at "go"
              intro Lq hLq
              refine My.lc_runs (My.runs_list (K := K) (a := qu) V.ref us) (fun pre H' => Same H9 H' ∧ ∃ vs, H' Lq = some (.lst (vs.map V.ref)) ∧ vs.length ≤ pre.length ∧ Qs H' vs ((qs.take pre.length).filter fun p => decide (p.1 ≠ d))) ⟨My.Same.new (Same.refl H9) hLq, [], upd_same, Nat.le_refl _, .nil⟩ (fun pre post H' _ z => SqL.of (z.1 _ _ u9)) ?_ ?_
              · rintro pre3 t post3 H10 v H11 hpre3 ⟨S10, vs, gL, lvs, Qv⟩ ⟨rfl, rfl⟩
                obtain ⟨pr, hpr, ht⟩ := Q9.at pre3.length t (by rw [hpre3]; simp)
                have hlen : pre3.length < 100 := by
                  have := congrArg List.length hpre3
                  rw [List.length_append, List.length_cons] at this
                  omega
                have etk : (qs.take (pre3 ++ [t]).length).filter (fun p => decide (p.1 ≠ d)) = (qs.take pre3.length).filter (fun p => decide (p.1 ≠ d)) ++ (if pr.1 ≠ d then [pr] else []) := by
                  rw [List.length_append, List.length_singleton, List.take_add_one, hpr, List.filter_append]
                  congr 1
                  by_cases hc : pr.1 = d
                  · simp [hc]
                  · simp [hc]
                have t11 := S10 _ _ ht
                simp only [List.map_cons, List.map_nil, wipe, List.set_cons_succ, List.set_cons_zero]
                walk_at "go"
                refine ⟨rfl, ?_⟩
                walk_at "go"
                by_cases hc : pr.1 = d
                · have e : (!decide (V.int (pr.1 : Nat) = V.int (d : Nat))) = false := by rw [hc]; simp
                  rw [e]
                  walk_at "go"
                  refine ⟨S10, vs, gL, by rw [List.length_append]; omega, ?_⟩
                  rw [etk, if_neg (fun z => z hc), List.append_nil]
                  exact Qv
                · have e : (!decide (V.int (pr.1 : Nat) = V.int (d : Nat))) = true := by
                    rw [decide_eq_false (fun z => hc (by injection z with z; exact Int.ofNat.inj z))]; rfl
                  rw [e]
                  walk_at "go"
                  refine ⟨_, gL, by rw [List.length_map, sizeLine_eq]; omega, My.Same.mut S10 hLq, vs ++ [t], by rw [upd_same, List.map_append]; rfl, by rw [List.length_append, List.length_append]; simp; omega, ?_⟩
                  rw [etk, if_pos hc]
                  have TL : t ≠ Lq := ne_of_none ht hLq
                  refine Qs.snoc (Qv.imp fun u x e => ?_) (by rw [upd_ne TL]; exact t11)
                  rw [upd_ne (fun z => by rw [z, gL] at e; cases e)]
                  exact e
              · rintro H10 ⟨S10, vs, gL, _, Qv⟩
                rw [hul, List.take_length] at Qv
                walk_at "go"
                refine hnx _ _ ⟨_, _, _, dx, b, s', q', sf, Lq, bs.set d .non, _, ts', vs, _, rfl, fin H10 Lq vs hLq S10 gL Qv, ?_⟩
                have := Q8'.len
                have := List.length_filter_le (fun p : Nat × V => decide (p.1 ≠ d)) qs
                omega
            · have e : decide (V.int wy = V.int 1) = false := decide_eq_false fun z => by injection z with z; exact h1 z
              rw [e]
              walk_at "go"
              refine ⟨a, dx, _, rfl, W7.L.D.ha, rfl, ?_⟩
              walk_at "go"
              refine ⟨a, dx, b, s', q, bs, ss, ts, d, z, rfl, W7.L.D, by omega, by omega, by omega, by omega, okT_T4 z hz, fun t H8 nt ht k8 D8 => ?_⟩
              obtain ⟨f8, u8, Q8, P8, S8⟩ := W7.rest fun c o _ _ h1 h2 h => k8 c o h1 h2 h
              walk_at "go"
              intro t2 ht2
              have u9 : upd H8 t2 (.tup [V.int d, V.str z]) qu = some (.lst (us.map V.ref)) := by rw [upd_ne (ne_of_none u8 ht2)]; exact u8
              walk_at "go"
              exact hnx _ _ ⟨_, _, _, dx, b, s', q, sf, qu, bs, _, _, _, _, rfl, W7.wrote hd hz ht k8 D8 ht2, by rw [List.length_append, List.length_singleton]; omega⟩
      · rintro σ' H1 ⟨o7, o8, o9, o10, o11, o12, dx, b, s', q, sf, qu, bs, ss, ts, us, qs, rfl, W, _, hw⟩
        obtain ⟨nw, rfl, n1⟩ := hw (by rw [List.length_range]; decide)
        clear W9
        have cs := W.cs
        have hls := W.ls
        walk_at "go"
        refine My.x_eqO W.L.D.ha (TyD.int 5 _) ⟨a, dx, b, s', q, bs, ss, ts, .int 5, rfl, W.L.D, cs, .inr ⟨.type "int", .base (.int 5), T.iI, false, rfl, ?_⟩⟩
        walk_at "go"
        intro L1 hL1
        have S2 := My.Same.new (o := .lst [V.ref a]) (Same.refl H1) hL1
        have e2 : upd H1 L1 (.lst [V.ref a]) L1 = some (.lst [V.ref a]) := upd_same
        generalize upd H1 L1 (.lst [V.ref a]) = H2 at S2 e2 ⊢
        have W2 := W.same S2
        have n2 := S2 _ _ n1
        clear W n1 S2 hL1
        walk_at "go"
        refine My.x_eqO W2.L.D.ha (TyD.lst e2) ⟨a, dx, b, s', q, bs, ss, ts, _, rfl, W2.L.D, cs, .inr ⟨.type "list", My.sql_ty (SqL.of e2), T.iL, false, rfl, ?_⟩⟩
        walk_at "go"
        intro a2 dx2 ha2 hdx2 hne2
        refine ⟨a2, dx2, (n : Int), rfl, upd_same, by omega, by omega, fun b2 s2 q2 H6 k6 _ _ _ D6 => ⟨rfl, ?_⟩⟩
        rw [Int.toNat_natCast] at D6
        have S6 := made_same ha2 hdx2 k6
        have W6 := W2.same S6
        have n6 := S6 _ _ n2
        clear k6 S6 W2 n2 e2 ha2 hdx2 hne2
        refine My.x_eqO W6.L.D.ha (TyD.dsk D6.ha) ⟨a, dx, b, s', q, bs, ss, ts, _, rfl, W6.L.D, cs, .inl ⟨a2, dx2, b2, s2, q2, _, _, [], rfl, D6, cells_rep n, _, rfl, ?_⟩⟩
        walk_at "go"
        intro L2 hL2
        have S7 := My.Same.new (o := .lst [V.non]) (Same.refl H6) hL2
        have e7 : upd H6 L2 (.lst [V.non]) L2 = some (.lst [V.non]) := upd_same
        generalize upd H6 L2 (.lst [V.non]) = H7 at S7 e7 ⊢
        walk_at "go"
        refine ⟨L2, n, _, rfl, rfl, e7, by omega, by omega, by rw [sizeLine_eq, List.length_singleton]; omega, fun r8 hr8 => ?_⟩
        rw [flat_rep, Int.toNat_natCast]
        have S8 := S7.trans (My.Same.new (o := .lst (List.replicate n .non)) (Same.refl H7) hr8)
        have f8 : upd H7 r8 (.lst (List.replicate n .non)) r8 = some (.lst (List.replicate n .non)) := upd_same
        generalize upd H7 r8 (.lst (List.replicate n .non)) = H8 at S8 f8 ⊢
        have W8 := W6.same S8
        have n8 := S8 _ _ n6
        clear S7 e7 hL2 hr8 S8 W6 n6 D6
        refine x_eqC (SqL.of n8) (SqL.of f8) cs (cells_rep n) ?_
        refine My.x_ne_d (k := false) rfl (by simp) ?_
        walk_at "go"
        intro a3 dx3 ha3 hdx3 hne3
        refine ⟨a3, dx3, ((n : Int) + 1), rfl, upd_same, by omega, by omega, fun b3 s3 q3 H9 k9 _ _ _ D9 => ⟨rfl, ?_⟩⟩
        rw [show ((n : Int) + 1).toNat = n + 1 by omega] at D9
        have S9 := made_same ha3 hdx3 k9
        have W9 := W8.same S9
        clear k9 S9 W8 n8 f8 ha3 hdx3 hne3
        refine My.x_eqO W9.L.D.ha (TyD.dsk D9.ha) ⟨a, dx, b, s', q, bs, ss, ts, _, rfl, W9.L.D, cs, .inl ⟨a3, dx3, b3, s3, q3, _, _, [], rfl, D9, cells_rep (n + 1), _, rfl, ?_⟩⟩
        have ne : decide (ss = List.replicate (n + 1) V.non) = false := decide_eq_false fun z => by have := congrArg List.length z; rw [hls, List.length_replicate] at this; omega
        rw [ne]
        walk_at "go"
        exact ⟨⟨_, _, _, _, _, _, _, _, _, _, _, _, rfl⟩, W9.S⟩
    · rintro σ' H1 ⟨⟨o1, o2, o3, o4, o5, o6, o7, o8, o9, o10, o11, o12, rfl⟩, S1⟩
      walk_at "go"
      exact h _
end
end K01

end

section
namespace K01
open PySem PySem.Spec PyProof.Rows L2
theorem prB_ok {K : PySem.W.Frag} {f : Str} (h : prB K f = true) : PropOf K (CD K) f (He.ma K (CD K) f) (pgAd K f) := by
  unfold prB at h
  obtain ⟨h1, h⟩ := My.ba h
  obtain ⟨h2, h⟩ := My.ba h
  obtain ⟨h3, h4⟩ := My.ba h
  refine ⟨He.eqO_ok h1, He.eqO_ok h2, of_decide_eq_true h3, ?_⟩
  unfold pgAd
  split at h4
  · rename_i g rest e
    rw [e]
    exact ⟨rest, rfl⟩
  · cases h4
theorem fun_at {K : PySem.W.Frag} {a : Addr} {d : He.DefD} (e : fnA K a = d.val) (c : okA K a d = true) : ∃ fd, FunD K d.name d.qual d.params d.body d.scope (d.dvs K) (d.kws K) a fd := by
  unfold okA at c
  obtain ⟨kp, c⟩ := My.ba c
  unfold fnA at e
  cases q : K.lookup a with
  | none =>
    rw [q] at c
    cases c
  | some o =>
    obtain ⟨oc, od, dt, sl⟩ := o
    rw [q] at c e
    cases dt with
    | func u =>
      obtain ⟨u1, u2, u3, u4, u5, u6, u7, u8, u9, u10, u11, u12, u13, u14, u15⟩ := u
      have e : (some (u1, u2, u3, u4, u5, u6, u7, u15) : He.FnW) = some (d.name, d.qual, d.params, .stmts d.body, d.scope, mainGlobals, [], builtinsNs) := e
      injection e with e
      injection e with z1 e
      injection e with z2 e
      injection e with z3 e
      injection e with z4 e
      injection e with z5 e
      injection e with z6 e
      injection e with z7 z8
      subst z1 z2 z3 z4 z5 z6 z7 z8
      obtain ⟨k1, c⟩ := My.ba (show (PySem.W.codeIn K u13 d.qual && (He.dflB K u8 (d.dvs K) && He.kwdB K u9 (d.kws K))) = true from c)
      obtain ⟨k2, k3⟩ := My.ba c
      exact ⟨_, ⟨oc, od, u8, u9, u10, u11, u12, u13, u14, sl, rfl, q, k1, He.dflB_ok k2, He.kwdB_ok k3⟩, kp⟩
    | _ => cases c
theorem tupE_ok {K : PySem.W.Frag} {a : Addr} (h : tupE K a = true) (H : Hp) : SqT K H a [] := by
  unfold tupE at h
  split at h
  · rename_i t dd its n sl e
    obtain ⟨h1, h2⟩ := My.ba h
    have e1 := beq_iff_eq.mp h1
    subst e1
    have e2 := List.isEmpty_iff.mp h2
    refine .inr ⟨_, its, n, e, rfl, rfl, ?_, by rw [e2]; exact .nil⟩
    rw [← Array.length_toList, e2]
    exact Nat.zero_le _
  · cases h
/-! ### a hook by whatever is seen of the fragment that the top leaves -/
theorem seeT_eq {α : Type} (n : Nat) (see : PySem.W.Frag → α) (due : World → α) (s : PySem.W.SharedT) : seeT n see s = (hookF n see due).obs s.abs :=
  congrArg (fun g => see (He.frG g (He.asD g n))) (funext (HandSHeadRun.getT_eq s))
theorem ob_eq (s : PySem.W.SharedT) : ob s = hk.obs s.abs := seeT_eq 6 see _ s
end K01

end

section
namespace K01
open PySem PySem.Spec PyProof.Rows L2
theorem facts {P : Program} {w : World} {K : PySem.W.Frag} {h : Heap} {mg : Str → Option Value} {f : Addr} (X : K.In h) (G : h.Ns mainGlobals mg) (hfa : mg ("law" : Str) = some (.ref f)) (c : see K = hk.val w) :
    ∃ fd : FuncData, (∀ (s : Shared) (v : Value), BindsTo s fd ⟨[v], []⟩ [("_law_script", v)]) ∧ ∀ base : Heap, K.In base → base.Ns mainGlobals mg → My.FnG P w K mg base CX0 13 f fd ["_law_script"] (sp_law K) := by
  have cD : He.SaysD fa fn K := congrArg (fun z : He.AlD × (List He.FnW × Bool) => z.1) c
  have e : ex K = true := congrArg (fun z : He.AlD × (List He.FnW × Bool) => z.2.2) c
  have cg : [fnA K (pgAd K "size"), fnA K (pgAd K "pending")] = [d_Disk_size.val, d_Disk_pending.val] := congrArg (fun z : He.AlD × (List He.FnW × Bool) => z.2.1) c
  have gs : fnA K (pgAd K "size") = d_Disk_size.val := (List.cons.inj cg).1
  have gp : fnA K (pgAd K "pending") = d_Disk_pending.val := (List.cons.inj (List.cons.inj cg).2).1
  clear c cg
  have c := cD
  unfold ex at e
  obtain ⟨fd0, F0⟩ := cD.def_ 0 (d := d_is_between) rfl
  obtain ⟨fd1, F1⟩ := cD.def_ 1 (d := d_is_text) rfl
  obtain ⟨fd2, F2⟩ := cD.def_ 2 (d := d_has_only) rfl
  obtain ⟨fd3, F3⟩ := cD.def_ 3 (d := d_Disk_init) rfl
  obtain ⟨fd4, F4⟩ := cD.def_ 4 (d := d_Disk_len) rfl
  obtain ⟨fd5, F5⟩ := cD.def_ 5 (d := d_Disk_require) rfl
  obtain ⟨fd6, F6⟩ := cD.def_ 6 (d := d_Disk_getitem) rfl
  obtain ⟨fd7, F7⟩ := cD.def_ 7 (d := d_Disk_use_power) rfl
  obtain ⟨fd8, F8⟩ := cD.def_ 8 (d := d_Disk_write) rfl
  obtain ⟨fd9, F9⟩ := cD.def_ 9 (d := d_Disk_flush) rfl
  obtain ⟨fd10, F10⟩ := cD.def_ 10 (d := d_Disk_lose) rfl
  obtain ⟨fd11, F11⟩ := cD.def_ 11 (d := d_Disk_crashed) rfl
  obtain ⟨fd12, F12⟩ := cD.def_ 12 (d := d_Disk_copy) rfl
  obtain ⟨fd13, F13⟩ := cD.def_ 13 (d := d_Disk_crashes) rfl
  obtain ⟨fd14, F14⟩ := cD.def_ 14 (d := d_Disk_eq) rfl
  obtain ⟨fd15, F15⟩ := cD.def_ 15 (d := d_law_pool) rfl
  obtain ⟨fd16, F16⟩ := cD.def_ 16 (d := d_law_draw) rfl
  obtain ⟨fd17, F17⟩ := cD.def_ 17 (d := d_law_choose) rfl
  obtain ⟨fd18, F18⟩ := cD.def_ 18 (d := d_law_held) rfl
  obtain ⟨fd19, F19⟩ := cD.def_ 19 (d := d_law_after) rfl
  obtain ⟨fd20, F20⟩ := cD.def_ 20 (d := d_law_check_losses) rfl
  obtain ⟨fd21, F21⟩ := cD.def_ 21 (d := d_law) rfl
  obtain ⟨e1, e⟩ := My.ba e
  obtain ⟨e2, e⟩ := My.ba e
  obtain ⟨e3, e⟩ := My.ba e
  obtain ⟨e4, e⟩ := My.ba e
  obtain ⟨e5, e⟩ := My.ba e
  obtain ⟨e6, e⟩ := My.ba e
  obtain ⟨e7, e⟩ := My.ba e
  obtain ⟨e8, e⟩ := My.ba e
  obtain ⟨e9, e⟩ := My.ba e
  obtain ⟨e10, e⟩ := My.ba e
  obtain ⟨e11, e⟩ := My.ba e
  obtain ⟨e12, e⟩ := My.ba e
  obtain ⟨e13, e⟩ := My.ba e
  obtain ⟨e14, e⟩ := My.ba e
  obtain ⟨e15, e⟩ := My.ba e
  obtain ⟨e16, e⟩ := My.ba e
  obtain ⟨e17, e⟩ := My.ba e
  obtain ⟨e18, e⟩ := My.ba e
  obtain ⟨e19, e⟩ := My.ba e
  obtain ⟨e20, e⟩ := My.ba e
  obtain ⟨e21, e⟩ := My.ba e
  obtain ⟨e22, e⟩ := My.ba e
  obtain ⟨e23, e⟩ := My.ba e
  obtain ⟨e24, e25⟩ := My.ba e
  have ea := hfa.symm.trans (He.glo_ok X G (c.fact 10 (f := .glo "law") rfl))
  cases ea
  obtain ⟨t1, hmb⟩ := He.int_ok X G (c.fact 25 (f := .int "MAX_BLOCKS" 1000) rfl)
  obtain ⟨t2, hms⟩ := He.int_ok X G (c.fact 26 (f := .int "MAX_SIGNS" 4000) rfl)
  have hgD := He.glo_ok X G (c.fact 3 (f := .glo "Disk") rfl)
  have hcl : Cls K (CD K) := He.cls_ok (c.fact 27 (f := .cls "Disk") rfl)
  have T : Tx K mg t1 t2 := ⟨He.free_ok X G (c.fact 11 (f := .free "len") rfl), He.free_ok X G (c.fact 12 (f := .free "int") rfl), He.free_ok X G (c.fact 13 (f := .free "bool") rfl), He.free_ok X G (c.fact 14 (f := .free "str") rfl), He.free_ok X G (c.fact 15 (f := .free "list") rfl), He.free_ok X G (c.fact 16 (f := .free "tuple") rfl), He.free_ok X G (c.fact 17 (f := .free "max") rfl), He.free_ok X G (c.fact 18 (f := .free "min") rfl), He.free_ok X G (c.fact 19 (f := .free "range") rfl), He.free_ok X G (c.fact 20 (f := .free "enumerate") rfl), He.free_ok X G (c.fact 21 (f := .free "isinstance") rfl), He.free_ok X G (c.fact 22 (f := .free "all") rfl), He.free_ok X G (c.fact 23 (f := .free "repr") rfl), He.free_ok X G (c.fact 24 (f := .free "sorted") rfl), hgD, hmb, hms, hcl, He.noat_ok (c.fact 28 (f := .noat "Disk" "own_blocks") rfl), He.noat_ok (c.fact 29 (f := .noat "Disk" "own_shown") rfl), He.noat_ok (c.fact 30 (f := .noat "Disk" "own_queue") rfl), He.noat_ok (c.fact 31 (f := .noat "Disk" "own_left") rfl), tupE_ok e5, tupE_ok e6,
    by unfold PySem.W.kitOne; simp, of_decide_eq_true e7, of_decide_eq_true e8, fun H a dx fs z => .base (.ins z hcl (He.eqO_ok e13) (He.eqO_ok e14) (of_decide_eq_true e15) (of_decide_eq_true e11)), of_decide_eq_true e9, of_decide_eq_true e10, of_decide_eq_true e11, He.eqO_ok e12⟩
  obtain ⟨fdS, FS⟩ := fun_at (d := d_Disk_size) gs e3
  obtain ⟨fdP, FP⟩ := fun_at (d := d_Disk_pending) gp e4
  have b := FunD.bindsA (ps := ["_law_script"]) F21 fun _ _ _ _ _ _ us hl => match us, hl with | [_], _ => rfl
  refine ⟨fd21, fun s v => b s [v] rfl, fun base hKb hbns => ?_⟩
  have C_between : My.Cl P w K mg base "is_between" ["value", "least", "most"] 1 sp_betw := ⟨⟨fd0, ok_betw T F0, F0.bindsN fun _ _ _ _ _ _ us hl => match us, hl with | [_, _, _], _ => rfl⟩, F0.kp, He.glo_ok X G (c.fact 0 (f := .glo "is_between") rfl)⟩
  have C_text : My.Cl P w K mg base "is_text" ["value", "most"] 1 sp_text := ⟨⟨fd1, ok_text T F1, F1.bindsN fun _ _ _ _ _ _ us hl => match us, hl with | [_, _], _ => rfl⟩, F1.kp, He.glo_ok X G (c.fact 1 (f := .glo "is_text") rfl)⟩
  have C_only : My.Cl P w K mg base "has_only" ["values", "most"] 2 (sp_only K) := ⟨⟨fd2, ok_only T F2 C_between, F2.bindsN fun _ _ _ _ _ _ us hl => match us, hl with | [_, _], _ => rfl⟩, F2.kp, He.glo_ok X G (c.fact 2 (f := .glo "has_only") rfl)⟩
  have M_D : My.Mx P w K mg base CX0 "Disk" ["self", "size"] 3 (sp_init K) [] := ⟨⟨_, fd3, [], He.mkr_ok (c.fact 43 (f := .mkr "Disk") rfl), ok_init T F3 C_between, F3.bindsN fun _ _ _ _ _ _ us hl => match us, hl with | [_, _], _ => rfl, .nil⟩, hgD⟩
  have C_require : My.Cm P w K mg base CX0 "Disk" "require" ["self", "block"] 3 (sp_req K) := ⟨⟨fd5, ok_req T F5 C_between, F5.bindsN fun _ _ _ _ _ _ us hl => match us, hl with | [_, _], _ => rfl⟩, He.meth_ok (c.fact 33 (f := .meth "Disk" "require") rfl), hcl, e17⟩
  have C_len : My.Cm P w K mg base CX0 "Disk" "__len__" ["self"] 1 (sp_len K) := ⟨⟨fd4, ok_len T F4, F4.bindsN fun _ _ _ _ _ _ us hl => match us, hl with | [_], _ => rfl⟩, He.meth_ok (c.fact 32 (f := .meth "Disk" "__len__") rfl), hcl, e16⟩
  have P_size : Pr P w K mg base "Disk" "size" ["self"] 1 (sp_len K) := ⟨⟨_, _, fdS, prB_ok e1, ok_size T FS, FS.bindsN fun _ _ _ _ _ _ us hl => match us, hl with | [_], _ => rfl⟩, hcl⟩
  have P_pending : Pr P w K mg base "Disk" "pending" ["self"] 1 (sp_pend K) := ⟨⟨_, _, fdP, prB_ok e2, ok_pend T FP, FP.bindsN fun _ _ _ _ _ _ us hl => match us, hl with | [_], _ => rfl⟩, hcl⟩
  have C_power : My.Cm P w K mg base CX0 "Disk" "use_power" ["self"] 3 (sp_pow K) := ⟨⟨fd7, ok_pow T F7, F7.bindsN fun _ _ _ _ _ _ us hl => match us, hl with | [_], _ => rfl⟩, He.meth_ok (c.fact 35 (f := .meth "Disk" "use_power") rfl), hcl, e19⟩
  have C_get : My.Cm P w K mg base CX0 "Disk" "__getitem__" ["self", "block"] 4 (sp_get K) := ⟨⟨fd6, ok_get T F6 C_require, F6.bindsN fun _ _ _ _ _ _ us hl => match us, hl with | [_, _], _ => rfl⟩, He.meth_ok (c.fact 34 (f := .meth "Disk" "__getitem__") rfl), hcl, e18⟩
  have C_write : My.Cm P w K mg base CX0 "Disk" "write" ["self", "block", "text"] 4 (sp_write K) := ⟨⟨fd8, ok_write T F8 C_require C_text C_power, F8.bindsN fun _ _ _ _ _ _ us hl => match us, hl with | [_, _, _], _ => rfl⟩, He.meth_ok (c.fact 36 (f := .meth "Disk" "write") rfl), hcl, e20⟩
  have C_flush : My.Cm P w K mg base CX0 "Disk" "flush" ["self"] 4 (sp_flush K) := ⟨⟨fd9, ok_flush T F9 C_power, F9.bindsN fun _ _ _ _ _ _ us hl => match us, hl with | [_], _ => rfl⟩, He.meth_ok (c.fact 37 (f := .meth "Disk" "flush") rfl), hcl, e21⟩
  have C_lose : My.Cm P w K mg base CX0 "Disk" "lose" ["self", "block"] 4 (sp_lose K) := ⟨⟨fd10, ok_lose T F10 C_require, F10.bindsN fun _ _ _ _ _ _ us hl => match us, hl with | [_, _], _ => rfl⟩, He.meth_ok (c.fact 38 (f := .meth "Disk" "lose") rfl), hcl, e22⟩
  have okC := ok_crashed (P := P) (w := w) (base := base) T F11 C_only P_size M_D
  obtain ⟨mvC_c0, kbC_c0⟩ := FunD.kbinds0 (ps := ["self", "kept", "torn"]) F11 1 [] [("kept", .ref (etN "kept" K)), ("torn", .ref (etN "torn" K))] (fun us mv ws => us ++ mv) (by simp [He.DefD.kws, d_Disk_crashed]) (by simp [He.DefD.kws, d_Disk_crashed, He.Dv.v]) (fun r1 r2 r3 => r1.append r2) fun D doc pm an cdv ct us mv ws hu hm hw => match us, mv, ws, hu, hm, hw with | [_], [_, _], [], _, _, _ => ⟨_, _, _, _, _, _, rfl, rfl, ⟨_, _, _, _, _, _, rfl, rfl, rfl⟩⟩
  have C_c0 : My.CmK P w K mg base CX0 "Disk" "crashed" ["self", "kept", "torn"] 6 (sp_crashed K) [] (g0 K) := ⟨⟨fd11, _, okC, kbC_c0⟩, He.meth_ok (c.fact 39 (f := .meth "Disk" "crashed") rfl), hcl⟩
  obtain ⟨mvC_ck, kbC_ck⟩ := FunD.kbinds0 (ps := ["self", "kept", "torn"]) F11 1 ["kept"] [("torn", .ref (etN "torn" K))] (fun us mv ws => us ++ (ws ++ mv)) (by simp [He.DefD.kws, d_Disk_crashed]) (by simp [He.DefD.kws, d_Disk_crashed, He.Dv.v]) (fun r1 r2 r3 => r1.append (r3.append r2)) fun D doc pm an cdv ct us mv ws hu hm hw => match us, mv, ws, hu, hm, hw with | [_], [_], [_], _, _, _ => ⟨_, _, _, _, _, _, rfl, rfl, rfl⟩
  have C_ck : My.CmK P w K mg base CX0 "Disk" "crashed" ["self", "kept", "torn"] 6 (sp_crashed K) ["kept"] (gk K) := ⟨⟨fd11, _, okC, kbC_ck⟩, He.meth_ok (c.fact 39 (f := .meth "Disk" "crashed") rfl), hcl⟩
  obtain ⟨mvC_ct, kbC_ct⟩ := FunD.kbinds0 (ps := ["self", "kept", "torn"]) F11 1 ["torn"] [("kept", .ref (etN "kept" K))] (fun us mv ws => us ++ (mv ++ ws)) (by simp [He.DefD.kws, d_Disk_crashed]) (by simp [He.DefD.kws, d_Disk_crashed, He.Dv.v]) (fun r1 r2 r3 => r1.append (r2.append r3)) fun D doc pm an cdv ct us mv ws hu hm hw => match us, mv, ws, hu, hm, hw with | [_], [_], [_], _, _, _ => ⟨_, _, _, _, _, _, rfl, rfl, rfl⟩
  have C_ct : My.CmK P w K mg base CX0 "Disk" "crashed" ["self", "kept", "torn"] 6 (sp_crashed K) ["torn"] (gt K) := ⟨⟨fd11, _, okC, kbC_ct⟩, He.meth_ok (c.fact 39 (f := .meth "Disk" "crashed") rfl), hcl⟩
  obtain ⟨mvC_ckt, kbC_ckt⟩ := FunD.kbinds0 (ps := ["self", "kept", "torn"]) F11 1 ["kept", "torn"] [] (fun us mv ws => us ++ ws) (by simp [He.DefD.kws, d_Disk_crashed]) (by simp [He.DefD.kws, d_Disk_crashed, He.Dv.v]) (fun r1 r2 r3 => r1.append r3) fun D doc pm an cdv ct us mv ws hu hm hw => match us, mv, ws, hu, hm, hw with | [_], [], [_, _], _, _, _ => rfl
  have C_ckt : My.CmK P w K mg base CX0 "Disk" "crashed" ["self", "kept", "torn"] 6 (sp_crashed K) ["kept", "torn"] gkt := ⟨⟨fd11, _, okC, kbC_ckt⟩, He.meth_ok (c.fact 39 (f := .meth "Disk" "crashed") rfl), hcl⟩
  have C_copy : My.Cm P w K mg base CX0 "Disk" "copy" ["self"] 7 (sp_copy K) := ⟨⟨fd12, ok_copy T F12 C_c0, F12.bindsN fun _ _ _ _ _ _ us hl => match us, hl with | [_], _ => rfl⟩, He.meth_ok (c.fact 40 (f := .meth "Disk" "copy") rfl), hcl, e24⟩
  have C_crashes : Cg P w K mg base "Disk" "crashes" 8 (sp_crashes K) := ⟨⟨fd13, "self", ok_crashes T F13 C_ck, F13.bindsN fun _ _ _ _ _ _ us hl => match us, hl with | [_], _ => rfl⟩, He.meth_ok (c.fact 41 (f := .meth "Disk" "crashes") rfl), hcl⟩
  have C_eq : My.Cm P w K mg base CX0 "Disk" "__eq__" ["self", "other"] 1 (sp_eq K) := ⟨⟨fd14, ok_eq T F14, F14.bindsN fun _ _ _ _ _ _ us hl => match us, hl with | [_, _], _ => rfl⟩, He.meth_ok (c.fact 42 (f := .meth "Disk" "__eq__") rfl), hcl, e25⟩
  have C_pool : My.Cl P w K mg base "_law_pool" ["_law_script", "_law_k"] 1 (My.sp_pool K) := ⟨⟨fd15, ok_pool T F15, F15.bindsN fun _ _ _ _ _ _ us hl => match us, hl with | [_, _], _ => rfl⟩, F15.kp, He.glo_ok X G (c.fact 4 (f := .glo "_law_pool") rfl)⟩
  have C_draw : My.Cl P w K mg base "_law_draw" ["_law_pool_here", "_law_many"] 1 My.sp_draw := ⟨⟨fd16, ok_draw T F16, F16.bindsN fun _ _ _ _ _ _ us hl => match us, hl with | [_, _], _ => rfl⟩, F16.kp, He.glo_ok X G (c.fact 5 (f := .glo "_law_draw") rfl)⟩
  have C_choose : My.Cl P w K mg base "_law_choose" ["_law_pool_here", "_law_items"] 2 sp_choose := ⟨⟨fd17, ok_choose T F17 C_draw, F17.bindsN fun _ _ _ _ _ _ us hl => match us, hl with | [_, _], _ => rfl⟩, F17.kp, He.glo_ok X G (c.fact 6 (f := .glo "_law_choose") rfl)⟩
  have C_held : My.Cl P w K mg base "_law_held" ["_law_disk"] 6 (sp_held K) := ⟨⟨fd18, ok_held T F18 P_size C_get.spc, F18.bindsN fun _ _ _ _ _ _ us hl => match us, hl with | [_], _ => rfl⟩, F18.kp, He.glo_ok X G (c.fact 7 (f := .glo "_law_held") rfl)⟩
  have C_after : My.Cl P w K mg base "_law_after" ["_law_safe", "_law_queue", "_law_stay", "_law_rip"] 1 (sp_after K) := ⟨⟨fd19, ok_after T F19, F19.bindsN fun _ _ _ _ _ _ us hl => match us, hl with | [_, _, _, _], _ => rfl⟩, F19.kp, He.glo_ok X G (c.fact 8 (f := .glo "_law_after") rfl)⟩
  have C_losses : My.ClG P w K mg base CX0 "_law_check_losses" ["_law_pool_here", "_law_disk", "_law_safe", "_law_queue"] 11 (sp_losses K) := ⟨⟨fd20, ok_losses T F20 C_draw C_held C_after P_pending C_copy C_eq.spc C_c0 C_ct C_ckt C_crashes, F20.bindsN fun _ _ _ _ _ _ us hl => match us, hl with | [_, _, _, _], _ => rfl⟩, F20.kp, He.glo_ok X G (c.fact 9 (f := .glo "_law_check_losses") rfl)⟩
  exact ok_law T F21 C_pool C_draw C_choose C_held C_after M_D C_flush C_lose C_write C_len.spc P_pending C_eq.spc C_losses
end K01
open PySem PySem.W PySem.Calls PyProof.Rows
theorem PySem.Challenge.cw_livevolumes_k01_disks_holds : PySem.Challenge.rw_livevolumes_k01_disks.Holds := by
  w_on; o_law
  refine HandSHeadRun.head_any (r := K01.R) (q := view K01.R.prog [21]) (H := K01.hk) (ob := K01.ob) (M := 4000) (loose := K01.loose) (d := HandSHeadRun.topDef K01.R.prog 21) (kwd := []) K01.ob_eq
    (by kernel_rfl) (fun s => by kernel_rfl) K01.run (by kernel_rfl) (by kernel_rfl) (by kernel_rfl) (by rfl) (by first | assumption | decide +kernel) (by decide +kernel) ⟨rfl, rfl, rfl, rfl, rfl, by decide +kernel⟩ ?hw ?hc
  case hw => w_witness2
  case hc =>
    refine My.walk_ofG (l := PySem.Challenge.rw_livevolumes_k01_disks) (n := 63) (k := 13) (x := "_law_script") (CX := fun _ => L2.CX0) rfl (by decide) (by kernel_rfl) ⟨rfl, by decide, by decide⟩ ?F (fun _ _ _ _ _ z => z)
    intro w mg fa h Y G hmg0
    obtain ⟨K, KX, c⟩ := Y
    have hmg : mg ("law" : PySem.Str) = some (.ref fa) := by
      have e : (HandSHeadRun.topDef K01.R.prog 21).name = ("law" : PySem.Str) := by kernel_rfl
      rw [← e]
      exact hmg0
    obtain ⟨fd, hb, hF⟩ := K01.facts (P := (PySem.Challenge.rw_livevolumes_k01_disks).prog) (w := w) KX G hmg c
    exact ⟨K, fd, K01.sp_law K, KX, hb, fun H a ns hl _ _ hS => ⟨a, ns, rfl, hS, hl, fun _ => rfl⟩, hF⟩
#print axioms PySem.Challenge.cw_livevolumes_k01_disks_holds

end

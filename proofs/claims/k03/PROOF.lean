import PyProof.Rows.All
import Wide.All
import OpenK.AllK
import Wide.FinOn
import HandS.ForMost
import HandS.More
import HandS.SetFor
import HandS.Style
import HandS.IsInst
import HandS.Wide
import HandS.Walk
import HandS.Steps
import HandS.Conv
import HandS.EndBits
import HandS.TupAny
import KE.GoesEnum
import KE.GoesMore
import PyProof.P3Eq
import HandS.SortInts
import KE.KDflt
import HandS.Exc
import HandS.Lambda
import HandS.ForExc
import HandS.ExcIs
import HandS.ExcField
import HandS.ExcInit
import HandS.Defaults
import HandS.TupMul
import KE.KTupSum
import KE.DataMinMax
import HandS.TupLe
import HandS.Text
import HandS.RaiseMore
import HandS.NoneIn
import HandS.SetKeys
import KE.KNestM
import KE.KLam
import HandS.EndTab
import PySem.Challenge.RW_quantalines_k03_deeds_refused
set_option Elab.async false
set_option maxRecDepth 100000
set_option linter.all false
set_option synthInstance.maxSize 100000
set_option synthInstance.maxHeartbeats 2000000
set_option maxHeartbeats 4000000
/-! Q0: readings by head, one rule a combinator; calls by bundles; new rules (a product with a small factor, xs[i] op= e). -/
namespace Qn
open PySem L2

/-! ### named readings by values -/
def cLen (K : PySem.W.Frag) : List V → Hp → VK → Prop := fun xs H Q => ∃ p ys, xs = [.ref p] ∧ (SqL K H p ys ∨ SqT K H p ys) ∧ Q (.int ys.length) H
def cMin2 : List V → Hp → VK → Prop := fun xs H Q => ∃ i j, xs = [.int i, .int j] ∧ Q (.int (if j < i then j else i)) H
def cMax2 : List V → Hp → VK → Prop := fun xs H Q => ∃ i j, xs = [.int i, .int j] ∧ Q (.int (if j > i then j else i)) H
def cLenD : List V → Hp → VK → Prop := fun xs H Q => ∃ a kvs, xs = [V.ref a] ∧ H a = some (.dK kvs) ∧ Q (.int kvs.length) H
def cInt : List V → Hp → VK → Prop := fun xs H Q => (∃ i, xs = [.int i] ∧ Q (.int i) H) ∨ ∃ k, xs = [.bl k] ∧ Q (.int (if k then 1 else 0)) H
def cLst (K : PySem.W.Frag) : List V → Hp → VK → Prop := fun xs H Q => ∃ p ys, xs = [.ref p] ∧ (SqL K H p ys ∨ SqT K H p ys) ∧ ∀ l, H l = none → Q (.ref l) (upd H l (.lst ys))
def cTup (K : PySem.W.Frag) : List V → Hp → VK → Prop := fun xs H Q => ∃ p ys, xs = [.ref p] ∧ ((SqL K H p ys ∧ ∀ l, H l = none → Q (.ref l) (upd H l (.tup ys))) ∨ (SqT K H p ys ∧ Q (.ref p) H))
def cSortD : List V → Hp → VK → Prop := fun xs H Q => ∃ (a : Addr) (kvs : List (Key × V)) (ks : List Int), xs = [.ref a] ∧ Rd H a (.dK kvs) ∧ kvs.map (·.1) = ks.map Sum.inl ∧ ks.length < 64 ∧
  ∀ (ys : List Int) (p : Addr), ys.Perm ks → ys.Pairwise (· ≤ ·) → H p = none → Q (.ref p) (upd H p (.lst (ys.map V.int)))
def oMul : R2 := rI IntMulOk fun i j => .int (i * j)
def oDivW : R2 := rI CDivW fun i j => .int (i / j)
def oMod : R2 := rI (fun _ j => 0 < j) fun i j => .int (i % j)
def oAdd : R2 := rI0 fun i j => .int (i + j)
def oSub : R2 := rI0 fun i j => .int (i - j)
def oLt : R2 := rI0 fun i j => .bl (decide (i < j))
def oLe : R2 := rI0 fun i j => .bl (decide (i ≤ j))
def oGt : R2 := rI0 fun i j => .bl (decide (j < i))
def oGe : R2 := rI0 fun i j => .bl (decide (j ≤ i))
section
variable {X : Cx}
theorem qr_len : CallR X (.builtin "len") (cLen X.K) := call_len_seq
theorem qr_min2 (hc : X.calm = true) : CallR X (.builtin "min") cMin2 := call_min2 hc
theorem qr_max2 (hc : X.calm = true) : CallR X (.builtin "max") cMax2 := call_max2 hc
theorem qr_lenD : CallR X (.builtin "len") cLenD := call_lenD
theorem qr_int : CallR X (.type "int") cInt := call_int1
theorem qr_list : CallR X (.type "list") (cLst X.K) := call_list_of
theorem qr_tuple : CallR X (.type "tuple") (cTup X.K) := call_tuple_of
theorem qr_sortD (hc : X.calm = true) : CallR X (.builtin "sorted") cSortD := call_sortedDI hc
theorem qo_mul : OpR X (binaryOp .Mult) oMul := opI fun _ _ _ _ _ _ _ hc q => PyProof.Rows.mul_int q hc
theorem qo_div : OpR X (binaryOp .FloorDiv) oDivW := op_fdivW
theorem qo_mod : OpR X (binaryOp .Mod) oMod := op_mod
theorem qo_add : OpR X (binaryOp .Add) oAdd := op_add
theorem qo_sub : OpR X (binaryOp .Sub) oSub := op_sub
theorem qo_lt : OpR X (compareOp .Lt) oLt := op_lt
theorem qo_le : OpR X (compareOp .LtE) oLe := op_le
theorem qo_gt : OpR X (compareOp .Gt) oGt := op_gt
theorem qo_ge : OpR X (compareOp .GtE) oGe := op_ge
end

/-! ### readings in parts: what a value's use asks -/
def kFld (K : PySem.W.Frag) (f : Str) : V → Hp → VK → Prop := fun x H Q => ∃ a C dx fs v, x = .ref a ∧ H a = some (.ins C dx fs) ∧ Cls K C ∧ NoAttr K C f ∧ fs.lookup f = some v ∧ Q v H
def kMeth (C : Addr) (m : Str) (sp : Sp) (dvs : List V) (E : XK) (σ : St) (t : TA) : V → Hp → VK → Prop := fun x H Q => ∃ a dx fs, x = .ref a ∧ H a = some (.ins C dx fs) ∧ fs.lookup m = none ∧ t σ H fun vs H2 => sp (x :: (vs ++ dvs)) H2 Q E
def kSetF (K : PySem.W.Frag) (f : Str) (y : V) : V → Hp → (Hp → Prop) → Prop := fun x H R => ∃ a C dx fs, x = .ref a ∧ H a = some (.ins C dx fs) ∧ Cls K C ∧ NoAttr K C f ∧ fs.length < 1000 ∧ R (upd H a (.ins C dx (putF f y fs)))
def kBool : V → Hp → (Bool → Hp → Prop) → Prop := fun x H Q => ∃ k, x = .bl k ∧ Q k H
def kIf (b : Bool) (A B : Prop) : Prop := if b = true then A else B
def kTup (xs : List V) (H : Hp) (Q : VK) : Prop := xs.length ≤ sizeLine ∧ ∀ p, H p = none → Q (.ref p) (upd H p (.tup xs))
def kLst (xs : List V) (H : Hp) (Q : VK) : Prop := xs.length ≤ sizeLine ∧ ∀ p, H p = none → Q (.ref p) (upd H p (.lst xs))
def kIL (K : PySem.W.Frag) : V → Hp → (It → Hp → Prop) → Prop := fun x H R => ∃ a, x = .ref a ∧ (∃ xs, SqL K H a xs) ∧ R (Itl K a) H
def kIT (K : PySem.W.Frag) : V → Hp → (It → Hp → Prop) → Prop := fun x H R => ∃ a, x = .ref a ∧ (∃ xs, SqT K H a xs) ∧ R (Itt K a) H
def kIR1 : List V → Hp → (It → Hp → Prop) → Prop := fun vs H R => ∃ j : Int, vs = [.int j] ∧ -(2 ^ 62) ≤ j ∧ j < 2 ^ 62 ∧ R (Itr 0 j.toNat) H
def kIR2 : List V → Hp → (It → Hp → Prop) → Prop := fun vs H R => ∃ i j : Int, vs = [.int i, .int j] ∧ (-(2 ^ 62) ≤ i ∧ i < 2 ^ 62 ∧ -(2 ^ 62) ≤ j ∧ j < 2 ^ 62) ∧ R (Itr i (j - i).toNat) H
def kFor (J : It) (g : TG) (tb : TS) (D : Ends) (σ : St) (H : Hp) : Prop := ∃ W : Nat → Nat → St → Hp → Prop, (∃ m, W 0 m σ H) ∧ ∀ i m σ H, W i m σ H →
  (J.stop i H ∧ D.nx σ H) ∨ (J.go i H ∧ ∃ N : St → Hp → Prop, (∀ σ' H', N σ' H' → ∃ m', m' < m ∧ W (i + 1) m' σ' H') ∧ ∀ x H', J.yld i H x H' → g x σ H' fun σ2 H2 => tb { D with nx := N, ct := N, bk := D.nx } σ2 H2)
def kDGet : V → V → Hp → VK → Prop := fun x y H Q => ∃ a v, x = .ref a ∧ DGet H a y (some v) ∧ Q v H
def kDIn : V → V → Hp → VK → Prop := fun x y H Q => ∃ a o, x = .ref a ∧ DGet H a y o ∧ Q (.bl o.isSome) H
def kDNotIn : V → V → Hp → VK → Prop := fun x y H Q => ∃ a o, x = .ref a ∧ DGet H a y o ∧ Q (.bl (!o.isSome)) H
def kDPut (v : V) : V → V → Hp → (Hp → Prop) → Prop := fun x y H R => ∃ a H4, x = .ref a ∧ DPut H a y v H4 ∧ R H4
def kBM (K : PySem.W.Frag) (T : String) (r : V → List V → Hp → VK → Prop) (σ : St) (t : TA) : V → Hp → VK → Prop := fun x H Q => tyV K T x H ∧ t σ H fun xs H2 => r x xs H2 Q
def kPop1 (ty : TE) (σ : St) : V → Hp → VK → Prop := fun x H Q => ∃ a, x = .ref a ∧ IsD H a ∧ ty σ H fun y H2 => ∃ kvs k v, H2 a = some (.dK kvs) ∧ y = kV k ∧ valV kvs k = some v ∧ Q v (upd H2 a (.dK (dropK kvs k)))
def kPart : V → Hp → (Option Int → Hp → Prop) → Prop := fun x H Q => ∃ i, x = .int i ∧ Q (some i) H
def kUnT (K : PySem.W.Frag) (n : Nat) (t : TGs) : V → St → Hp → (St → Hp → Prop) → Prop := fun v σ H Q => ∃ a xs, v = .ref a ∧ SqT K H a xs ∧ xs.length = n ∧ t xs σ H Q
def kMake (C : Addr) (sp : Sp) (E : XK) (vs : List V) (H : Hp) (Q : VK) : Prop := ∀ x dx, H x = none → H dx = none → dx ≠ x → sp (.ref x :: vs) (upd (upd H dx (.own x)) x (.ins C dx [])) (fun v H2 => v = .non ∧ Q (.ref x) H2) E

section
variable {K : PySem.W.Frag} {σ : St} {H H' : Hp} {Q : VK} {R : Hp → Prop} {D : Ends} {ta tb tc te tv td ty : TE} {tr t : TA} {t1 t2 ts : TS} {te' : TE} {c c1 c2 : TT} {P : Bool → Hp → Prop} {x y z v : V} {i j : Int} {a C dx p : Addr} {fs : List (Str × V)} {f m : Str} {xs ys : List V} {kvs : List (Key × V)}
theorem upd_old {o o' : HO} (h : H a = some o) (hp : H p = none) : upd H p o' a = some o := by
  rw [upd_ne (ne_of_none h hp)]; exact h
theorem upd_oth {o o' : HO} (h : H a = some o) (hp : a ≠ p) : upd H p o' a = some o := by
  rw [upd_ne hp]; exact h
theorem upd_free {o' : HO} {b : Addr} (h : H b = none) (hp : b ≠ p) : upd H p o' b = none := by
  rw [upd_ne hp]; exact h
/-! values -/
theorem r_var {n : Nat} (h : σ[n]? = some (some v)) (k : Q v H) : tVar n σ H Q := ⟨v, h, k⟩
theorem r_c (k : Q v H) : tC v σ H Q := k
theorem r_op {r : R2} (k : ta σ H fun x H1 => tb σ H1 fun y H2 => r x y H2 Q) : tOp r ta tb σ H Q := k
theorem r_un {r : V → Hp → VK → Prop} (k : ta σ H fun x H1 => r x H1 Q) : tUn r ta σ H Q := k
theorem r_add (k : Q (.int (i + j)) H) : oAdd (.int i) (.int j) H Q := ⟨i, j, rfl, rfl, k⟩
theorem r_sub (k : Q (.int (i - j)) H) : oSub (.int i) (.int j) H Q := ⟨i, j, rfl, rfl, k⟩
theorem r_lt (k : Q (.bl (decide (i < j))) H) : oLt (.int i) (.int j) H Q := ⟨i, j, rfl, rfl, k⟩
theorem r_le (k : Q (.bl (decide (i ≤ j))) H) : oLe (.int i) (.int j) H Q := ⟨i, j, rfl, rfl, k⟩
theorem r_gt (k : Q (.bl (decide (j < i))) H) : oGt (.int i) (.int j) H Q := ⟨i, j, rfl, rfl, k⟩
theorem r_ge (k : Q (.bl (decide (j ≤ i))) H) : oGe (.int i) (.int j) H Q := ⟨i, j, rfl, rfl, k⟩
theorem r_mul (h : IntMulOk i j) (k : Q (.int (i * j)) H) : oMul (.int i) (.int j) H Q := ⟨i, j, rfl, rfl, h, k⟩
theorem r_div (h : CDivW i j) (k : Q (.int (i / j)) H) : oDivW (.int i) (.int j) H Q := ⟨i, j, rfl, rfl, h, k⟩
theorem r_mod (h : 0 < j) (k : Q (.int (i % j)) H) : oMod (.int i) (.int j) H Q := ⟨i, j, rfl, rfl, h, k⟩
theorem r_neg (k : Q (.int (-i)) H) : rU (fun i => .int (-i)) (.int i) H Q := ⟨i, rfl, k⟩
theorem r_eqI (k : Q (.bl (decide (i = j))) H) : rEq (.int i) (.int j) H Q := ⟨rfl, by
  have e : decide (V.int i = V.int j) = decide (i = j) := by simp
  rw [e]; exact k⟩
theorem r_neI (k : Q (.bl (!decide (i = j))) H) : rNe (.int i) (.int j) H Q := ⟨rfl, by
  have e : decide (V.int i = V.int j) = decide (i = j) := by simp
  rw [e]; exact k⟩
theorem r_eqS {u w : Str} (k : Q (.bl (decide (u = w))) H) : rEq (.str u) (.str w) H Q := ⟨rfl, by
  have e : decide (V.str u = V.str w) = decide (u = w) := by simp
  rw [e]; exact k⟩
theorem r_neS {u w : Str} (k : Q (.bl (!decide (u = w))) H) : rNe (.str u) (.str w) H Q := ⟨rfl, by
  have e : decide (V.str u = V.str w) = decide (u = w) := by simp
  rw [e]; exact k⟩
theorem r_isN (k : Q (.bl (decide (x = .non))) H) : rIsN x .non H Q := ⟨rfl, k⟩
theorem r_notN (k : Q (.bl (!decide (x = .non))) H) : rNotN x .non H Q := ⟨rfl, k⟩
theorem r_eqD {d e : PyData} (h1 : Dp K H x d) (h2 : Dp K H y e) (s1 : SeqAt.shaped d = true) (s2 : SeqAt.shaped e = true) (k : Q (.bl (PyData.eqv d e)) H) : rEqD K x y H Q := ⟨d, e, h1, h2, s1, s2, k⟩
theorem r_neD {d e : PyData} (h1 : Dp K H x d) (h2 : Dp K H y e) (s1 : SeqAt.shaped d = true) (s2 : SeqAt.shaped e = true) (k : Q (.bl (!PyData.eqv d e)) H) : rNeD K x y H Q := ⟨d, e, h1, h2, s1, s2, k⟩
theorem r_in {neg : Bool} (h : SqL K H p xs ∨ SqT K H p xs) (h1 : flatV x = true) (h2 : xs.all flatV = true) (k : Q (.bl (if neg then !inV x xs else inV x xs)) H) : rIn K neg x (.ref p) H Q := ⟨p, xs, rfl, h, h1, h2, k⟩
theorem r_ixL (h : SqL K H p xs) (e : atI xs i = some v) (k : Q v H) : rIxL K (.ref p) (.int i) H Q := ⟨p, xs, i, v, rfl, rfl, h, e, k⟩
theorem r_ixT (h : SqT K H p xs) (e : atI xs i = some v) (k : Q v H) : rIxT K (.ref p) (.int i) H Q := ⟨p, xs, i, v, rfl, rfl, h, e, k⟩
theorem r_fld (k : ta σ H fun x H1 => kFld K f x H1 Q) : tFld K ta f σ H Q := k
theorem r_kFld (h : H a = some (.ins C dx fs)) (c : Cls K C) (n : NoAttr K C f) (l : fs.lookup f = some v) (k : Q v H) : kFld K f (.ref a) H Q := ⟨a, C, dx, fs, v, rfl, h, c, n, l, k⟩
theorem r_nil {Q : List V → Hp → Prop} (k : Q [] H) : tNil σ H Q := k
theorem r_cons {Q : List V → Hp → Prop} (k : ta σ H fun x H1 => tr σ H1 fun xs H2 => Q (x :: xs) H2) : tCons ta tr σ H Q := k
theorem r_tup (k : t σ H fun xs H1 => kTup xs H1 Q) : tTup t σ H Q := k
theorem r_lst (k : t σ H fun xs H1 => kLst xs H1 Q) : tLst t σ H Q := k
theorem r_kTup (h : xs.length ≤ 1000) (k : ∀ p, H p = none → Q (.ref p) (upd H p (.tup xs))) : kTup xs H Q := ⟨Nat.le_trans h (by decide), k⟩
theorem r_kLst (h : xs.length ≤ 1000) (k : ∀ p, H p = none → Q (.ref p) (upd H p (.lst xs))) : kLst xs H Q := ⟨Nat.le_trans h (by decide), k⟩
theorem r_if (k : c σ H fun b H1 => kIf b (ta σ H1 Q) (tb σ H1 Q)) : tIf c ta tb σ H Q := k
theorem r_andV (k : ta σ H fun x H1 => kBool x H1 fun b H2 => kIf b (tb σ H2 Q) (Q (.bl false) H2)) : tAndV ta tb σ H Q := k
theorem r_orV (k : ta σ H fun x H1 => kBool x H1 fun b H2 => kIf b (Q (.bl true) H2) (tb σ H2 Q)) : tOrV ta tb σ H Q := k
theorem r_notV (k : ta σ H fun x H1 => kBool x H1 fun b H2 => Q (.bl (!b)) H2) : tNotV ta σ H Q := k
theorem r_chain {r r' : R2} (k : ta σ H fun x H1 => tb σ H1 fun y H2 => r x y H2 fun z H3 => kBool z H3 fun b H4 => kIf b (tc σ H4 fun w H5 => r' y w H5 Q) (Q (.bl false) H4)) : tChain r r' ta tb tc σ H Q := k
/-! tests -/
theorem r_test (k : te σ H fun x H1 => kBool x H1 P) : tTest te σ H P := k
theorem r_B (k : te σ H fun x H1 => kBool x H1 P) : tB te σ H P := k
theorem r_kBool {b : Bool} (k : P b H) : kBool (.bl b) H P := ⟨b, rfl, k⟩
theorem r_not (k : c σ H fun b H1 => P (!b) H1) : tNot c σ H P := k
theorem r_and (k : c1 σ H fun b H1 => kIf b (c2 σ H1 P) (P false H1)) : tAnd c1 c2 σ H P := k
theorem r_or (k : c1 σ H fun b H1 => kIf b (P true H1) (c2 σ H1 P)) : tOr c1 c2 σ H P := k
theorem r_kIf {b : Bool} {A B : Prop} (h1 : b = true → A) (h2 : b = false → B) : kIf b A B := by
  cases b with
  | true => exact h1 rfl
  | false => exact h2 rfl
theorem r_kT {b : Bool} {A B : Prop} (h : b = true) (k : A) : kIf b A B := by subst h; exact k
theorem r_kF {b : Bool} {A B : Prop} (h : b = false) (k : B) : kIf b A B := by subst h; exact k
theorem r_kTT {A B : Prop} (k : A) : kIf true A B := k
theorem r_kFF {A B : Prop} (k : B) : kIf false A B := k
theorem r_yes (k : P true H) : tYes σ H P := k
/-! calls -/
theorem r_call {sp : Sp} {dvs : List V} {E : XK} (k : t σ H fun vs H1 => sp (vs ++ dvs) H1 Q E) : tCall sp dvs E t σ H Q := k
theorem r_meth {sp : Sp} {dvs : List V} {E : XK} (k : ta σ H fun x H1 => kMeth C m sp dvs E σ t x H1 Q) : tMeth C m sp dvs E ta t σ H Q := k
theorem r_kMeth {sp : Sp} {dvs : List V} {E : XK} (h : H a = some (.ins C dx fs)) (l : fs.lookup m = none) (k : t σ H fun vs H2 => sp (.ref a :: (vs ++ dvs)) H2 Q E) : kMeth C m sp dvs E σ t (.ref a) H Q := ⟨a, dx, fs, rfl, h, l, k⟩
theorem r_make {sp : Sp} {E : XK} (k : t σ H fun vs H1 => kMake C sp E (vs ++ []) H1 Q) : tMake C sp [] E t σ H Q := k
theorem r_CB {r : List V → Hp → VK → Prop} (k : t σ H fun vs H1 => r vs H1 Q) : tCB r t σ H Q := k
theorem r_lenL (h : SqL K H p xs) (k : Q (.int xs.length) H) : cLen K [.ref p] H Q := ⟨p, xs, rfl, .inl h, k⟩
theorem r_lenT (h : SqT K H p xs) (k : Q (.int xs.length) H) : cLen K [.ref p] H Q := ⟨p, xs, rfl, .inr h, k⟩
theorem r_lenD (h : H p = some (.dK kvs)) (k : Q (.int kvs.length) H) : cLenD [.ref p] H Q := ⟨p, kvs, rfl, h, k⟩
theorem r_min2 (k : Q (.int (if j < i then j else i)) H) : cMin2 [.int i, .int j] H Q := ⟨i, j, rfl, k⟩
theorem r_max2 (k : Q (.int (if j > i then j else i)) H) : cMax2 [.int i, .int j] H Q := ⟨i, j, rfl, k⟩
theorem r_intB {b : Bool} (k : Q (.int (if b then 1 else 0)) H) : cInt [.bl b] H Q := .inr ⟨b, rfl, k⟩
theorem r_intI (k : Q (.int i) H) : cInt [.int i] H Q := .inl ⟨i, rfl, k⟩
theorem r_listL (h : SqL K H p xs) (k : ∀ l, H l = none → Q (.ref l) (upd H l (.lst xs))) : cLst K [.ref p] H Q := ⟨p, xs, rfl, .inl h, k⟩
theorem r_listT (h : SqT K H p xs) (k : ∀ l, H l = none → Q (.ref l) (upd H l (.lst xs))) : cLst K [.ref p] H Q := ⟨p, xs, rfl, .inr h, k⟩
theorem r_tupleL (h : SqL K H p xs) (k : ∀ l, H l = none → Q (.ref l) (upd H l (.tup xs))) : cTup K [.ref p] H Q := ⟨p, xs, rfl, .inl ⟨h, k⟩⟩
theorem r_tupleT (h : SqT K H p xs) (k : Q (.ref p) H) : cTup K [.ref p] H Q := ⟨p, xs, rfl, .inr ⟨h, k⟩⟩
theorem r_BM {T : String} {r : V → List V → Hp → VK → Prop} (k : ta σ H fun x H1 => kBM K T r σ t x H1 Q) : tBM K T r ta t σ H Q := k
theorem r_BM0 {T : String} {r : V → List V → Hp → VK → Prop} (k : ta σ H fun x H1 => kBM K T r σ tNil x H1 Q) : tBM0 K T r ta σ H Q := k
theorem r_kBML {r : V → List V → Hp → VK → Prop} (h : SqL K H p xs) (k : t σ H fun ys H2 => r (.ref p) ys H2 Q) : kBM K "list" r σ t (.ref p) H Q := ⟨.inl ⟨rfl, xs, h⟩, k⟩
theorem r_kBMD {r : V → List V → Hp → VK → Prop} (h : H p = some (.dK kvs)) (k : t σ H fun ys H2 => r (.ref p) ys H2 Q) : kBM K "dict" r σ t (.ref p) H Q := ⟨.inr (.inr (.inl ⟨rfl, .inl ⟨kvs, h⟩⟩)), k⟩
theorem r_kBMS {r : V → List V → Hp → VK → Prop} {u : Str} (k : t σ H fun ys H2 => r (.str u) ys H2 Q) : kBM K "str" r σ t (.str u) H Q := ⟨rfl, k⟩
theorem r_append (h : H p = some (.lst xs)) (hz : xs.length < 100000) (k : Q .non (upd H p (.lst (xs ++ [v])))) : rAppend (.ref p) [v] H Q := ⟨p, xs, v, rfl, rfl, h, Nat.lt_of_lt_of_le hz (by decide), k⟩
theorem r_clear (h : H p = some (.lst xs)) (k : Q .non (upd H p (.lst []))) : rClear (.ref p) [] H Q := ⟨p, xs, rfl, rfl, h, k⟩
theorem r_extend {b : Addr} (h : H p = some (.lst xs)) (h2 : H b = some (.lst ys)) (hz : xs.length + ys.length ≤ 100000) (k : Q .non (upd H p (.lst (xs ++ ys)))) : rExtend (.ref p) [.ref b] H Q := ⟨p, b, xs, ys, rfl, rfl, h, h2, Nat.le_trans hz (by decide), k⟩
theorem r_sl {r : V → Option Int → Option Int → Hp → VK → Prop} {tl th : TO} (k : te σ H fun x H1 => tl σ H1 fun l H2 => th σ H2 fun u H3 => r x l u H3 Q) : tSl r te tl th σ H Q := k
theorem r_part {Q : Option Int → Hp → Prop} (k : te σ H fun x H1 => kPart x H1 Q) : tPart te σ H Q := k
theorem r_kPart {Q : Option Int → Hp → Prop} (k : Q (some i) H) : kPart (.int i) H Q := ⟨i, rfl, k⟩
theorem r_noPart {Q : Option Int → Hp → Prop} (k : Q none H) : tNoPart σ H Q := k
theorem r_slL {lo hi : Option Int} (h : SqL K H a xs) (k : ∀ p, H p = none → Q (.ref p) (upd H p (.lst (cutV xs lo hi)))) : rSlL K (.ref a) lo hi H Q := ⟨a, xs, rfl, h, k⟩
theorem r_cat {b l : Addr} (h : H l = some (.lst xs)) (h2 : H b = some (.lst ys)) (hz : xs.length + ys.length ≤ 100000) (k : ∀ p, H p = none → Q (.ref p) (upd H p (.lst (xs ++ ys)))) : rCat (.ref l) (.ref b) H Q := ⟨l, b, xs, ys, rfl, rfl, h, h2, Nat.le_trans hz (by decide), k⟩
theorem r_rep1 {l : Addr} {n : Nat} (h : H l = some (.lst [v])) (hn : n ≤ 100000) (k : ∀ p, H p = none → Q (.ref p) (upd H p (.lst (List.replicate n v)))) : rRep (.ref l) (.int n) H Q := by
  refine ⟨l, n, [v], rfl, rfl, h, by omega, by omega, ?_, fun p hp => ?_⟩
  · have e : ((n : Int)).toNat = n := by omega
    rw [e]
    show 1 * n ≤ sizeLine
    rw [Nat.one_mul]
    exact Nat.le_trans hn (by decide)
  · have e : (List.replicate ((n : Int)).toNat [v]).flatten = List.replicate n v := by
      have e1 : ((n : Int)).toNat = n := by omega
      rw [e1]; simp
    rw [e]; exact k p hp
theorem r_dnew (k : ∀ p, H p = none → Q (.ref p) (upd H p (.dK []))) : tDNewK σ H Q := k
theorem r_dget (k : td σ H fun x H1 => ty σ H1 fun y H2 => kDGet x y H2 Q) : tDGet td ty σ H Q := k
theorem r_din (k : ty σ H fun y H1 => td σ H1 fun x H2 => kDIn x y H2 Q) : tDIn ty td σ H Q := k
theorem r_dnotin (k : ty σ H fun y H1 => td σ H1 fun x H2 => kDNotIn x y H2 Q) : tDNotIn ty td σ H Q := k
theorem r_kDGetI (h : H a = some (.dK kvs)) (e : valV kvs (.inl i) = some v) (k : Q v H) : kDGet (.ref a) (.int i) H Q := ⟨a, v, rfl, by rw [← e]; exact DGet.k (k := Sum.inl i) h, k⟩
theorem r_kDGetS {u : Str} (h : H a = some (.dK kvs)) (e : valV kvs (.inr u) = some v) (k : Q v H) : kDGet (.ref a) (.str u) H Q := ⟨a, v, rfl, by rw [← e]; exact DGet.k (k := Sum.inr u) h, k⟩
theorem r_kDInI (h : H a = some (.dK kvs)) (k : Q (.bl (valV kvs (.inl i)).isSome) H) : kDIn (.ref a) (.int i) H Q := ⟨a, _, rfl, DGet.k (k := Sum.inl i) h, k⟩
theorem r_kDNotInI (h : H a = some (.dK kvs)) (k : Q (.bl (!(valV kvs (.inl i)).isSome)) H) : kDNotIn (.ref a) (.int i) H Q := ⟨a, _, rfl, DGet.k (k := Sum.inl i) h, k⟩
theorem r_pop1 (k : td σ H fun x H1 => kPop1 ty σ x H1 Q) : tDPop1 td ty σ H Q := k
/-! statements -/
theorem r_seq (k : t1 { D with nx := t2 D } σ H) : tSeq t1 t2 D σ H := k
theorem r_next (k : D.nx σ H) : tNext D σ H := k
theorem r_asg {g : TG} (k : te σ H fun x H1 => g x σ H1 D.nx) : tAsg te g D σ H := k
theorem r_gName {n : Nat} {R : St → Hp → Prop} (k : R (σ.set n (some v)) H) : gName n v σ H R := k
theorem r_gTup {n : Nat} {u : TGs} {R : St → Hp → Prop} (k : kUnT K n u v σ H R) : gTup K n u v σ H R := k
theorem r_kUnT {n : Nat} {u : TGs} {R : St → Hp → Prop} (h : SqT K H a xs) (e : xs.length = n) (k : u xs σ H R) : kUnT K n u (.ref a) σ H R := ⟨a, xs, rfl, h, e, k⟩
theorem r_gCons {g : TG} {u : TGs} {R : St → Hp → Prop} (k : g v σ H fun σ' H' => u xs σ' H' R) : gCons g u (v :: xs) σ H R := ⟨v, xs, rfl, k⟩
theorem r_gNil {R : St → Hp → Prop} (k : R σ H) : gNil [] σ H R := ⟨rfl, k⟩
theorem r_gSub {ti : TE} {s : TSet} {R : St → Hp → Prop} (k : ta σ H fun o H1 => ti σ H1 fun i H2 => s o i v H2 fun H3 => R σ H3) : gSub ta ti s v σ H R := k
theorem r_setL {n : Nat} (h : H a = some (.lst xs)) (e : ixN xs.length i = some n) (k : R (upd H a (.lst (xs.set n v)))) : rSetL (.ref a) (.int i) v H R := ⟨a, xs, i, n, rfl, rfl, h, e, k⟩
theorem r_sFld (k : tv σ H fun y H1 => ta σ H1 fun x H2 => kSetF K f y x H2 fun H3 => D.nx σ H3) : sFld K ta tv f D σ H := k
theorem r_kSetF (h : H a = some (.ins C dx fs)) (c : Cls K C) (n : NoAttr K C f) (hl : fs.length < 1000) (k : R (upd H a (.ins C dx (putF f y fs)))) : kSetF K f y (.ref a) H R := ⟨a, C, dx, fs, rfl, h, c, n, hl, k⟩
theorem r_drop (k : te σ H fun _ H1 => D.nx σ H1) : tDrop te D σ H := k
theorem r_ret (k : te σ H D.rt) : tRet te D σ H := k
theorem r_retN (k : D.rt .non H) : tRetN D σ H := k
theorem r_ifS (k : c σ H fun b H1 => kIf b (t1 D σ H1) (t2 D σ H1)) : tIfS c t1 t2 D σ H := k
theorem r_sDPut (k : tv σ H fun v H1 => td σ H1 fun x H2 => ty σ H2 fun y H3 => kDPut v x y H3 fun H4 => D.nx σ H4) : sDPut td ty tv D σ H := by
  have : sDPut td ty tv D σ H = (tv σ H fun v H1 => td σ H1 fun x H2 => ty σ H2 fun y H3 => ∃ a H4, x = .ref a ∧ DPut H3 a y v H4 ∧ D.nx σ H4) := rfl
  rw [this]; exact k
theorem r_kDPutI (h : H a = some (.dK kvs)) (hl : kvs.length < 100000) (k : R (upd H a (.dK (putK kvs (.inl i) v)))) : kDPut v (.ref a) (.int i) H R := ⟨a, _, rfl, DPut.k (k := Sum.inl i) h (Nat.lt_of_lt_of_le hl (by decide)), k⟩
theorem r_kDPutS {u : Str} (h : H a = some (.dK kvs)) (hl : kvs.length < 100000) (k : R (upd H a (.dK (putK kvs (.inr u) v)))) : kDPut v (.ref a) (.str u) H R := ⟨a, _, rfl, DPut.k (k := Sum.inr u) h (Nat.lt_of_lt_of_le hl (by decide)), k⟩
theorem r_par {n1 n2 : Nat} (k : t σ H fun vs H1 => ∃ v w, vs = [v, w] ∧ D.nx ((σ.set n1 (some v)).set n2 (some w)) H1) : tPar n1 n2 t D σ H := k
theorem r_for {wi : TI} {g : TG} (k : wi σ H fun J H1 => kFor J g ts D σ H1) : tFor wi g ts D σ H := k
theorem r_iList {R : It → Hp → Prop} (k : te σ H fun x H1 => kIL K x H1 R) : iList K te σ H R := k
theorem r_iTup {R : It → Hp → Prop} (k : te σ H fun x H1 => kIT K x H1 R) : iTup K te σ H R := k
theorem r_kIL {R : It → Hp → Prop} (h : SqL K H a xs) (k : R (Itl K a) H) : kIL K (.ref a) H R := ⟨a, rfl, ⟨xs, h⟩, k⟩
theorem r_kIT {R : It → Hp → Prop} (h : SqT K H a xs) (k : R (Itt K a) H) : kIT K (.ref a) H R := ⟨a, rfl, ⟨xs, h⟩, k⟩
theorem r_iR1 {R : It → Hp → Prop} (k : t σ H fun vs H1 => kIR1 vs H1 R) : iRng1 t σ H R := k
theorem r_iR2 {R : It → Hp → Prop} (k : t σ H fun vs H1 => kIR2 vs H1 R) : iRng2 t σ H R := k
theorem r_kIR1 {R : It → Hp → Prop} (h : -1000000 ≤ j ∧ j ≤ 1000000) (k : R (Itr 0 j.toNat) H) : kIR1 [.int j] H R := ⟨j, rfl, by omega, by omega, k⟩
theorem r_kIR2 {R : It → Hp → Prop} (h : (-1000000 ≤ i ∧ i ≤ 1000000) ∧ -1000000 ≤ j ∧ j ≤ 1000000) (k : R (Itr i (j - i).toNat) H) : kIR2 [.int i, .int j] H R := ⟨i, j, rfl, by omega, k⟩
end

/-! ### loops by their walks -/
section
variable {J : It} {n : Nat} {G : Hp → Prop} {Y : Nat → Hp → V → Hp → Prop} {g : TG} {tb : TS} {D : Ends} {σ : St} {H : Hp}
theorem w_for (w : Walk J n G Y) (Pv : Nat → St → Hp → Prop) (h0 : Pv 0 σ H) (hG : ∀ i σ H, i ≤ n → Pv i σ H → G H)
    (hs : ∀ i x σ H H', i < n → Pv i σ H → Y i H x H' → g x σ H' fun σ2 H2 => tb { D with nx := Pv (i + 1), ct := Pv (i + 1), bk := D.nx } σ2 H2) (hd : ∀ σ H, Pv n σ H → D.nx σ H) : kFor J g tb D σ H :=
  for_it w Pv h0 hG hs hd
end

/-! ### calls by bundles -/
section
variable (P : Program) (w : World) (K : PySem.W.Frag) (mg : Str → Option Value) (base : Heap)
/-- a def of the module by its name: its promise, its place, how it binds -/
def Cal (CX : CXT) (k : Nat) (x : Str) (ps : List Str) (sp : Sp) : Prop := ∃ f fd, FnOk P w K mg base CX k f fd ps sp ∧ mg x = some (.ref f) ∧ PySem.W.keepIn K (.ref f) = true ∧ Binds K fd ps []
/-- a method of the class at C -/
def CalM (CX : CXT) (k : Nat) (C : Addr) (m : Str) (ps : List Str) (sp : Sp) : Prop := ∃ f fd, FnOk P w K mg base CX k f fd ps sp ∧ Meth K C m f ∧ Binds K fd ps [] ∧ Cls K C
/-- the class at C, called by the name x: its __init__ -/
def CalC (CX : CXT) (k : Nat) (C : Addr) (x : Str) (ps : List Str) (sp : Sp) : Prop := ∃ f fd, FnOk P w K mg base CX k f fd ps sp ∧ Mk K C f ∧ mg x = some (.ref C) ∧ Binds K fd ps []
end
section
variable {X : Cx} {CX : CXT} {k : Nat} {x m : Str} {ps : List Str} {sp : Sp} {E : XK} {p pos apos : Pos} {e o : Expr} {es : List Expr} {t : TA} {ta : TE} {C : Addr}
theorem q_call (F : Cal X.prog X.w X.K X.mg X.base CX k x ps sp) (hr : Room k X.A) (hx : Passes CX X E) (ha : PA X (e :: es) t) (hg : Gl X x := by rfl) (hdb : (x == ("__debug__" : Str)) = false := by decide)
    (he : starEach (e :: es) X.env = (false, eval e X.env) :: starEach es X.env := by rfl) (hpl : (backTo pos (starEach es X.env)).any (·.1) = false := by rfl) : PE X (.Call (.Name x p) (e :: es) [] pos) (tCall sp [] E t) := by
  obtain ⟨f, fd, F, g, kp, b⟩ := F
  exact pe_call F hr hg g kp b .nil hx ha hdb he hpl
theorem q_call0 (F : Cal X.prog X.w X.K X.mg X.base CX k x ps sp) (hr : Room k X.A) (hx : Passes CX X E) (hg : Gl X x := by rfl) (hdb : (x == ("__debug__" : Str)) = false := by decide) :
    PE X (.Call (.Name x p) [] [] pos) (tCall sp [] E tNil) := by
  obtain ⟨f, fd, F, g, kp, b⟩ := F
  exact pe_call0 F hr hg g kp b .nil hx hdb
theorem q_meth {pl : Sem Bool} (F : CalM X.prog X.w X.K X.mg X.base CX k C m ps sp) (hr : Room k X.A) (hx : Passes CX X E) (ho : PE X o ta) (ha : PA X (e :: es) t)
    (hst : starEach (e :: es) X.env = (false, eval e X.env) :: starEach es X.env := by rfl) (hpl : (backTo pos (starEach es X.env)).any (·.1) = false := by rfl)
    (ht : eval (.Call (.Attribute o m apos) (e :: es) [] pos) X.env = (do
      let rv ← eval o X.env
      standAt apos.atName
      let (g, own) ← holding [rv] (getMethod rv m pl)
      callWith pos g own (backTo pos (starEach (e :: es) X.env)) (backToKw pos (keywordEach [] X.env))) := by rfl) : PE X (.Call (.Attribute o m apos) (e :: es) [] pos) (tMeth C m sp [] E ta t) := by
  obtain ⟨f, fd, F, hm, b, c⟩ := F
  exact pe_meth ho c hm F hr b .nil hx ha hst hpl ht
theorem q_meth0 {pl : Sem Bool} (F : CalM X.prog X.w X.K X.mg X.base CX k C m ps sp) (hr : Room k X.A) (hx : Passes CX X E) (ho : PE X o ta)
    (ht : eval (.Call (.Attribute o m apos) [] [] pos) X.env = (do
      let rv ← eval o X.env
      standAt apos.atName
      let (g, own) ← holding [rv] (getMethod rv m pl)
      callWith pos g own (backTo pos (starEach [] X.env)) (backToKw pos (keywordEach [] X.env))) := by rfl) : PE X (.Call (.Attribute o m apos) [] [] pos) (tMeth C m sp [] E ta tNil) := by
  obtain ⟨f, fd, F, hm, b, c⟩ := F
  exact pe_meth0 ho c hm F hr b .nil hx ht
theorem q_make (F : CalC X.prog X.w X.K X.mg X.base CX k C x ps sp) (hr : Room (k + 1) X.A) (hx : Passes CX X E) (ha : PA X (e :: es) t) (hg : Gl X x := by rfl) (hdb : (x == ("__debug__" : Str)) = false := by decide)
    (he : starEach (e :: es) X.env = (false, eval e X.env) :: starEach es X.env := by rfl) (hpl : (backTo pos (starEach es X.env)).any (·.1) = false := by rfl) : PE X (.Call (.Name x p) (e :: es) [] pos) (tMake C sp [] E t) := by
  obtain ⟨f, fd, F, M, g, b⟩ := F
  exact pe_make M F hr hg g b .nil hx ha hdb he hpl
theorem q_make0 (F : CalC X.prog X.w X.K X.mg X.base CX k C x ps sp) (hr : Room (k + 1) X.A) (hx : Passes CX X E) (hg : Gl X x := by rfl) (hdb : (x == ("__debug__" : Str)) = false := by decide) :
    PE X (.Call (.Name x p) [] [] pos) (tMake C sp [] E tNil) := by
  obtain ⟨f, fd, F, M, g, b⟩ := F
  exact pe_make0 M F hr hg g b .nil hx hdb
end
/-! a constant of the module -/
section
variable {X : Cx} {pos : Pos} {x : Str}
theorem q_cI {i : Int} (h : ∃ t, X.mg x = some (.int i t)) (hg : Gl X x := by rfl) (hd : (x == ("__debug__" : Str)) = false := by decide) : PE X (.Name x pos) (tC (.int i)) := by
  obtain ⟨t, h⟩ := h
  exact pe_glob hg h ⟨t, rfl⟩ hd
theorem q_bty {T : String} (hg : Gl X x) (hm : X.mg x = none) (hv : bootBuiltins x = some (.type T)) (hn : x ≠ "__name__" := by decide) (hd : (x == ("__debug__" : Str)) = false := by decide) : PE X (.Name x pos) (tC (.ty T)) := pe_bltn hg hm hv rfl hn hd
theorem q_cS {u : Str} (h : ∃ t, X.mg x = some (.str u t)) (hg : Gl X x := by rfl) (hd : (x == ("__debug__" : Str)) = false := by decide) : PE X (.Name x pos) (tC (.str u)) := by
  obtain ⟨t, h⟩ := h
  exact pe_glob hg h ⟨t, rfl⟩ hd
end

/-! ### heaps: what a part of the program may change -/
/-- outside W all that was tracked stands; the tuples stand -/
def Frame (W : Addr → Prop) (H H' : Hp) : Prop := (∀ b o, H b = some o → ¬ W b → H' b = some o) ∧ ∀ b xs, H b = some (.tup xs) → H' b = some (.tup xs)
/-- from H, where W is owned, to H', where W' is: W' is W or new -/
def Step (W : Addr → Prop) (H : Hp) (W' : Addr → Prop) (H' : Hp) : Prop := Frame W H H' ∧ ∀ b, W' b → W b ∨ H b = none
section
variable {W W1 W2 U : Addr → Prop} {H H1 H2 : Hp}
theorem Frame.refl : Frame W H H := ⟨fun _ _ e _ => e, fun _ _ e => e⟩
theorem Frame.trans (a : Frame W H H1) (b : Frame W H1 H2) : Frame W H H2 := ⟨fun c o e n => b.1 c o (a.1 c o e n) n, fun c xs e => b.2 c xs (a.2 c xs e)⟩
theorem Frame.mono (a : Frame W H H1) (h : ∀ b, W b → U b) : Frame U H H1 := ⟨fun c o e n => a.1 c o e fun z => n (h c z), a.2⟩
theorem Frame.of_same (s : Same H H1) : Frame W H H1 := ⟨fun b o e _ => s b o e, fun b _ e => s b _ e⟩
theorem Step.refl : Step W H W H := ⟨.refl, fun _ h => .inl h⟩
theorem Step.of_same (s : Same H H1) : Step W H W H1 := ⟨.of_same s, fun _ h => .inl h⟩
theorem Step.trans (a : Step W H W1 H1) (b : Step W1 H1 W2 H2) : Step W H W2 H2 := by
  refine ⟨⟨fun c o e n => b.1.1 c o (a.1.1 c o e n) fun z => ?_, fun c xs e => b.1.2 c xs (a.1.2 c xs e)⟩, fun c h => ?_⟩
  · rcases a.2 c z with q | q
    · exact n q
    · rw [e] at q; cases q
  · rcases b.2 c h with z | z
    · exact a.2 c z
    · cases q : H c with
      | none => exact .inr rfl
      | some o =>
        by_cases hw : W c
        · exact .inl hw
        · rw [a.1.1 c o q hw] at z; cases z
theorem Frame.new {p : Addr} {o : HO} (h : H p = none) : Frame W H (upd H p o) := .of_same fun b u e => upd_old e h
theorem Same.upd {p : Addr} {o : HO} (h : H p = none) : Same H (L2.upd H p o) := fun b u e => upd_old e h
theorem Step.new {p : Addr} {o : HO} (h : H p = none) : Step W H W (upd H p o) := ⟨.new h, fun _ z => .inl z⟩
/-- an owned object that is no tuple changes -/
theorem Frame.put {p : Addr} {o u : HO} (hw : W p) (h : H p = some u) (nt : ∀ xs, u ≠ .tup xs) : Frame W H (upd H p o) := by
  refine ⟨fun b v e n => upd_oth e fun z => n (z ▸ hw), fun b xs e => upd_oth e fun z => ?_⟩
  subst z; rw [h] at e; exact nt xs (Option.some.inj e)
end
end Qn

/-! Q0b: enumerate of a tuple; the empty tuple written; xs[i] read for xs[i] op= e. -/
namespace Qn
open PySem L2 PySem.Spec PyProof.Rows
theorem met_enumT (l : Addr) (its : Array Value) (n : Nat) (dct : Option Addr) (sl : Array (Option Value)) :
    Meets (Builtin.«enumerate.__new__» ⟨[.type "enumerate", .ref l], []⟩) (fun _ R s => s.heap.get? l = some { cls := .type "tuple", dict := dct, data := .seq its n, slots := sl } ∧
      R (.ok (.ret (.ref (s.heap.push { cls := .type "tuple_iterator", data := .fields #[.ref l, .int 0 0] }).objs.size)))
        { s with heap := (s.heap.push { cls := .type "tuple_iterator", data := .fields #[.ref l, .int 0 0] }).push { cls := .type "enumerate", data := .fields #[.none, .bool false, .ref s.heap.objs.size, rawInt 0, .none, .none] } }) :=
  .of_wp fun prog w A R s h => by
    obtain ⟨hp, g, d, tk, os⟩ := s; obtain ⟨ht, h⟩ := h
    have sub0 := sub_enumerate
    have isT : Heap.IsTuple (Shared.heap ⟨hp, g, d, tk, os⟩) l its := ⟨_, ht, rfl, n, rfl⟩
    wp_walk using AutoSeq1.wpAny_loadPart' ht
    refine wpAny_stack_any fun stk => wpAny_pure ?_
    split
    · rename_i c _ _ _ _ _
      cases (c == Value.type "enumerate") <;>
      · wp_walk using AutoSeq1.wpAny_loadPart' ht, wpAny_pyIter_tuple isT
        exact ⟨_, rfl, h⟩
    · wp_walk using AutoSeq1.wpAny_loadPart' ht, wpAny_pyIter_tuple isT
      exact ⟨_, rfl, h⟩
theorem call_enumT {prog : Program} {w : World} {A : Around} {E : Value → Shared → Prop} {s : Shared} {l : Addr} {its : Array Value} {Q : Value → Shared → Prop} (hT : s.heap.IsTuple l its)
    (h : ∀ h', IsEnum h' (s.heap.objs.size + 1) s.heap.objs.size 0 .none → h'.IsTupleIter s.heap.objs.size l 0 → h'.objs.size = s.heap.objs.size + 2 →
      (∀ b o, s.heap.get? b = some o → h'.get? b = some o) → Q (.ref (s.heap.objs.size + 1)) { s with heap := h' }) :
    wpAny (model prog w) A (call (.type "enumerate") [.ref l]) Q E s := by
  obtain ⟨⟨c, dct, dt, sl⟩, ht, hc, n, hd⟩ := hT
  obtain rfl : c = .type "tuple" := hc
  obtain rfl : dt = .seq its n := hd
  refine callType_new F.called_enumerate (by decide) (F.typeCall_enumerate_1 _) (F.newCall_enumerate_1 _) (fun obj => F.args_object_init_2 obj _) F.entry_enumerate_new
    (met_enumT l its n dct sl) ⟨ht, ?_⟩
  have size1 : (s.heap.push { cls := .type "tuple_iterator", data := .fields #[.ref l, .int 0 0] }).objs.size = s.heap.objs.size + 1 := Heap.size_push ..
  show _ ∧ _
  rw [size1]
  have isE : IsEnum ((s.heap.push { cls := .type "tuple_iterator", data := .fields #[.ref l, .int 0 0] }).push
      { cls := .type "enumerate", data := .fields #[.none, .bool false, .ref s.heap.objs.size, rawInt 0, .none, .none] }) (s.heap.objs.size + 1) s.heap.objs.size 0 .none := by
    have q := Heap.get?_push_size (s.heap.push { cls := .type "tuple_iterator", data := .fields #[.ref l, .int 0 0] })
      (o := { cls := .type "enumerate", data := .fields #[.none, .bool false, .ref s.heap.objs.size, rawInt 0, .none, .none] }) rfl
    rw [size1] at q; exact q
  refine ⟨⟨_, isE, rfl⟩, h _ isE ⟨_, Heap.get?_push_of_some _ (Heap.get?_push_size _ rfl), rfl, rfl⟩ (by rw [Heap.size_push, size1]) fun b o x => Heap.get?_push_of_some _ (Heap.get?_push_of_some _ x)⟩
/-- the tuple at a, each item in a new pair -/
def ItT (K : PySem.W.Frag) (a : Addr) : It :=
  ⟨fun i H => ∃ (xs : List V) (x : V), SqT K H a xs ∧ xs[i]? = some x, fun i H v H' => ∃ T x, v = .ref T ∧ H T = none ∧ H' = upd H T (.tup [.int (i : Nat), x]) ∧ ∀ xs, SqT K H a xs → xs[i]? = some x, fun i H => ∃ xs : List V, SqT K H a xs ∧ xs.length ≤ i⟩
theorem turn_enumT {P : Program} {w : World} {K : PySem.W.Frag} {elts : List Expr} {kk : Nat} {tpos : Pos} (a e it : Addr) :
    Turn P w K (.Tuple elts kk tpos) (ItT K a) [e, it] e (fun i h => (∃ old, IsEnum h e it ((i : Nat) : Int) old) ∧ h.IsTupleIter it a i ∧ e ≠ it) where
  mem := by simp
  obj := fun i h st b hb => by
    obtain ⟨⟨old, isE⟩, ⟨o, ho, hc, hd⟩, _⟩ := st
    have e' : b = e ∨ b = it := by simpa using hb
    rcases e' with z | z
    · rw [z]; exact ⟨_, isE, fun v q => nomatch q⟩
    · rw [z]; exact ⟨o, ho, fun v q => by rw [hd] at q; cases q⟩
  keep := fun i h h' st k => let ⟨⟨old, isE⟩, hi, hne⟩ := st; ⟨⟨old, k e (by simp) _ isE⟩, hi.at fun o q => k it (by simp) o q, hne⟩
  item := by
    intro X hP hw hK hc i pins s σ H E I hf st hg
    subst hP hw hK
    obtain ⟨⟨old, isE⟩, isI, hne⟩ := st
    obtain ⟨xs, x, hq, hx⟩ := hg
    obtain ⟨its, rv, p, hz⟩ := I.tuple hq
    obtain ⟨u, hu, ru⟩ := rv.get hx
    have ltE : e < s.heap.objs.size := Heap.lt_size isE
    have ltI : it < s.heap.objs.size := by obtain ⟨_, q, _⟩ := isI; exact Heap.lt_size q
    have apart : a ≠ it := by
      intro z
      obtain ⟨o1, q1, c1, _⟩ := isI
      obtain ⟨o2, q2, c2, _⟩ := p
      rw [z, q1] at q2; cases q2
      rw [c1] at c2; injection c2 with c3; exact absurd c3 (by decide)
    have apartE : a ≠ e := by
      intro z
      obtain ⟨o2, q2, c2, _⟩ := p
      have q3 := isE
      unfold IsEnum at q3
      rw [z, q3] at q2; cases q2; injection c2 with c3; exact absurd c3 (by decide)
    refine wpAny_pyNext_enum_itemD (Draws.tuple (A := X.A.in1) (I.ok.hd hc) it a apart its.toArray) isE ⟨isI, p⟩ (by
      have := (List.getElem?_eq_some_iff.mp hu).1
      simpa using this) hne (by
        intro z
        rcases List.mem_cons.mp z with z | z
        · exact hne z
        · exact apartE (List.mem_singleton.mp z).symm) fun y h' tk hy ho stN hT hsz hk => ?_
    have ey : y = u := by
      have q : its.toArray[i]? = some u := by simpa using hu
      have hy' : its.toArray[i]? = some y := hy
      rw [q] at hy'
      exact (Option.some.inj hy').symm
    subst ey
    refine ⟨_, rfl, wpAny_letOwnedTupleGo_enum (s := { s with heap := h', toks := tk + 1 }) ho fun h'' he' sb => ?_⟩
    have hT2 : h''.get? s.heap.objs.size = some { cls := .type "tuple", data := .seq #[.int i tk, y] } := (sb.2 _ (Nat.ne_of_gt ltE)).trans hT
    have new : ObjOk X.prog X.w (upd H s.heap.objs.size (.tup [.int (i : Nat), x])) h'' s.heap.objs.size (.tup [.int (i : Nat), x]) :=
      ⟨by show 2 ≤ sizeLine; decide, [.int i tk, y], .cons ⟨_, rfl⟩ (.cons ru .nil), ⟨_, hT2, rfl, _, rfl⟩⟩
    have I1 : Inv X pins σ (upd H s.heap.objs.size (.tup [.int (i : Nat), x])) { s with heap := h'', toks := tk + 1 } :=
      I.turnedNew (ch := [e, it]) (fun b ob hb q => (sb.2 b (fun z => hb (by simp [z]))).trans (hk b ob (fun z => hb (by simp [z])) (fun z => hb (by simp [z])) q)) hf (Nat.le_refl _) new
    refine ⟨.ref s.heap.objs.size, _, I1, rfl, ⟨_, x, rfl, I.hok.fresh (Nat.le_refl _), rfl, fun ys hy => by rw [I.tuple_inj hy hq]; exact hx⟩, ⟨⟨y, ?_⟩, stN.1.at fun o q => (sb.2 it (Ne.symm hne)).trans q, hne⟩, fun b hb => ?_⟩
    · have e1 : ((i + 1 : Nat) : Int) = (i : Int) + 1 := by omega
      rw [e1]; exact he'
    · have lt1 : b < s.heap.objs.size := by
        have e' : b = e ∨ b = it := by simpa using hb
        rcases e' with z | z
        · rw [z]; exact ltE
        · rw [z]; exact ltI
      rw [upd_ne (Nat.ne_of_lt lt1)]
      exact (hf b hb).1
  done := by
    intro X hP hw hK hc i pins s σ H E I hf st hg
    subst hP hw hK
    obtain ⟨⟨old, isE⟩, isI, hne⟩ := st
    obtain ⟨xs, hq, hx⟩ := hg
    obtain ⟨its, rv, p, hz⟩ := I.tuple hq
    obtain ⟨g0, g1, g2, g3, g4, g5⟩ := hf it (by simp)
    have lenE := rv.length
    have apart : a ≠ it := by
      intro z
      obtain ⟨o1, q1, c1, _⟩ := isI
      obtain ⟨o2, q2, c2, _⟩ := p
      rw [z, q1] at q2; cases q2
      rw [c1] at c2; injection c2 with c3; exact absurd c3 (by decide)
    unfold pyNext
    have hT : s.TypeIs (.ref e) "enumerate" := ⟨_, isE, rfl⟩
    refine wpAny_bind (wpAny_attempt (wpAny_callSpecial?_slot (name := Str.ofString "__next__") hT F.slot_enumerate_next
      (wpAny_call_entry F.slot_enumerate_next hT F.entry_enumerate_next ?_ (F.args_enumerate_next_1 _))))
    show wpAny _ _ (field (.ref e) 2 >>= _) _ _ _
    refine wpAny_bind (wpAny_field isE rfl (x := .ref it) rfl ?_)
    refine wpAny_bind (wpAny_nextOf_tuple_end (A := X.A.in1) (I.ok.hd hc) isI (show s.heap.IsTuple a its.toArray from p) (by simp; omega) fun h' x he' hx' => ?_)
    obtain ⟨o, ho, hc'⟩ := hx'
    refine wpAny_bind (wpAny_isInstance (T := "StopIteration") (b := true) ⟨o, ho, hc'⟩ isSubtype_stop ?_)
    exact wpAny_pure ⟨rfl, I.turned (t' := s.toks) (fun b o hb q => he' b o hb q) g0 g1 g3 g4 g5⟩
  self := fun A i s Q E st h => let ⟨⟨_, isE⟩, _⟩ := st; wpAny_pyIter_enum isE h
def kIE (K : PySem.W.Frag) : List V → Hp → (It → Hp → Prop) → Prop := fun vs H R => ∃ a xs, vs = [.ref a] ∧ SqT K H a xs ∧ R (ItT K a) H
def iEnumT (K : PySem.W.Frag) (ta : TA) : TI := fun σ H R => ta σ H fun vs H1 => kIE K vs H1 R
theorem qi_enumT {X : Cx} {e : Expr} {ta : TA} {p pos tpos : Pos} {elts : List Expr} {kk : Nat} (hg : Gl X "enumerate") (hm : X.mg "enumerate" = none) (ha : PA X [e] ta) (hs : starEach [e] X.env = [(false, eval e X.env)] := by rfl) :
    PI X (.Tuple elts kk tpos) (.Call (.Name "enumerate" p) [e] [] pos) (iEnumT X.K ta) := by
  refine ⟨fun pins s σ H R I h => ?_⟩
  refine Call_ (ld_blt I hg hm boot_enumerate (PyProof.Rows.callWith_type1 (thn (ha.run pos pins s σ H _ I h) fun us s1 ⟨vs, H1, I1, r1, q1⟩ => ?_) hs rfl))
  obtain ⟨a, xs, ex, hq, q⟩ := q1
  subst ex
  cases r1 with
  | cons r rr =>
    cases rr
    cases r
    obtain ⟨its, rv, p', hz⟩ := I1.tuple hq
    refine call_enumT (show s1.heap.IsTuple a its.toArray from p') fun h' isE isI hsz hk => wpAny_pyIter_enum isE ?_
    have I2 : Inv X pins σ H1 { s1 with heap := h' } := I1.kept (t' := s1.toks) hk
    refine ⟨s1.heap.objs.size + 1, [s1.heap.objs.size + 1, s1.heap.objs.size], _, _, H1, rfl, I2, turn_enumT a (s1.heap.objs.size + 1) s1.heap.objs.size, ⟨⟨.none, isE⟩, isI, Nat.succ_ne_self _⟩, fun b hb => ?_, q⟩
    have e' : b = s1.heap.objs.size + 1 ∨ b = s1.heap.objs.size := by simpa using hb
    have above : s1.heap.objs.size ≤ b := by
      rcases e' with z | z
      · rw [z]; exact Nat.le_add_right _ _
      · rw [z]; exact Nat.le_refl _
    exact I1.fpOk above (I1.hok.fresh above)
theorem walk_enumT {K : PySem.W.Frag} {a : Addr} {xs : List V} : Walk (ItT K a) xs.length (fun H => SqT K H a xs) (YPair (fun i => some (.int (i : Nat))) (fun i => xs[i]?)) := by
  refine ⟨fun i _ hi q => ⟨xs, xs[i], q, by simp [hi]⟩, fun _ q => ⟨xs, q, Nat.le_refl _⟩, fun i H v H' _ q y => ?_⟩
  obtain ⟨T, x, h1, h2, h3, h4⟩ := y
  exact ⟨T, .int (i : Nat), x, h1, h2, h3, rfl, h4 xs q⟩
section
variable {K : PySem.W.Frag} {σ : L2.St} {H : Hp} {t : TA} {a : Addr} {xs : List V} {R : It → Hp → Prop} {Q : VK} {v : V} {i : Int}
theorem r_iET (k : t σ H fun vs H1 => kIE K vs H1 R) : iEnumT K t σ H R := k
theorem r_kIE (h : SqT K H a xs) (k : R (ItT K a) H) : kIE K [.ref a] H R := ⟨a, xs, rfl, h, k⟩
end
/-- () -/
def tTup0 : TE := fun _ H Q => ∀ p, H p = none → Q (.ref p) (upd H p (.tup []))
theorem qe_tup0 {X : Cx} {x1 : Nat} {pos : Pos} : PE X (.Tuple [] x1 pos) tTup0 :=
  ⟨fun pins s σ H Q I h => (pe_tup (X := X) (x1 := x1) (pos := pos) pa_nil).run pins s σ H Q I ⟨Nat.zero_le _, h⟩⟩
theorem r_tup0 {σ : L2.St} {H : Hp} {Q : VK} (k : ∀ p, H p = none → Q (.ref p) (upd H p (.tup []))) : tTup0 σ H Q := k
/-- xs[i] for xs[i] op= e -/
def gIxL (K : PySem.W.Frag) : V → V → Hp → VK → Prop := rIxL K
theorem qg_list {X : Cx} : PGet X (gIxL X.K) := by
  intro pins s σ H o i ov iv Q I ro ri h
  obtain ⟨p, xs, k, z, rfl, rfl, hq, he, q⟩ := h
  cases ro
  obtain ⟨t, rfl⟩ := ri
  obtain ⟨its, r, pl, hz⟩ := I.list hq
  obtain ⟨j, h1, h2, h3, h4, h5⟩ := atI_get he
  obtain ⟨u, eu, ru⟩ := r.get h2
  have lenE := r.length
  have hn := line63
  have fin : EP X pins σ Q u s := ⟨z, H, I, ru, q⟩
  by_cases h0 : 0 ≤ k
  · have ej : k.toNat = j := by
      rw [seqIndex_of h0 h5] at h1
      exact Option.some.inj h1
    refine wpAny_getItem_list pl.isList h0 (by omega) (by rw [ej]; simpa using eu) fin
  · have ej : (k + (its.toArray.size : Int)).toNat = j := by
      rw [seqIndex_neg (by omega) h4] at h1
      rw [List.size_toArray, ← lenE]
      exact Option.some.inj h1
    exact wpAny_getItem_list_neg pl.isList (by omega) (by rw [List.size_toArray] <;> omega) (by omega) (by rw [ej]; simpa using eu) fin
end Qn

/-! Q0c: the plain steps of a reading, found by the head of what is asked. -/
namespace Qn
open PySem L2
class Rd (A : Prop) (B : outParam Prop) : Prop where
  by_ : B → A
/-- a slot's value -/
class GetS (σ : St) (n : Nat) (v : outParam V) : Prop where
  eq : σ[n]? = some (some v)
class SetS (σ : St) (n : Nat) (v : V) (τ : outParam St) : Prop where
  eq : σ.set n (some v) = τ
instance get_0 {v : V} {σ : St} : GetS (some v :: σ) 0 v := ⟨rfl⟩
instance get_s {o : Option V} {σ : St} {n : Nat} {v : V} [h : GetS σ n v] : GetS (o :: σ) (n + 1) v := ⟨by simpa using h.eq⟩
instance set_0 {o : Option V} {σ : St} {v : V} : SetS (o :: σ) 0 v (some v :: σ) := ⟨rfl⟩
instance set_s {o : Option V} {σ τ : St} {n : Nat} {v : V} [h : SetS σ n v τ] : SetS (o :: σ) (n + 1) v (o :: τ) := ⟨by rw [List.set_cons_succ, h.eq]⟩
section
variable {K : PySem.W.Frag} {σ τ : St} {H : Hp} {Q : VK} {R : Hp → Prop} {S : St → Hp → Prop} {D : Ends} {ta tb tc te tv td ty tx : TE} {tr t : TA} {t1 t2 ts : TS} {c c1 c2 : TT} {P : Bool → Hp → Prop} {x y z v : V} {i j : Int} {a p : Addr} {f m : Str} {xs : List V} {n : Nat} {b : Bool} {A B : Prop}
instance rd_seq : Rd (tSeq t1 t2 D σ H) (t1 { D with nx := t2 D } σ H) := ⟨id⟩
instance rd_next : Rd (tNext D σ H) (D.nx σ H) := ⟨id⟩
instance rd_brk : Rd (tBreak D σ H) (D.bk σ H) := ⟨id⟩
instance rd_cont : Rd (tCont D σ H) (D.ct σ H) := ⟨id⟩
instance rd_var [h : GetS σ n v] : Rd (tVar n σ H Q) (Q v H) := ⟨fun k => ⟨v, h.eq, k⟩⟩
instance rd_c : Rd (tC v σ H Q) (Q v H) := ⟨id⟩
instance rd_op {r : R2} : Rd (tOp r ta tb σ H Q) (ta σ H fun x H1 => tb σ H1 fun y H2 => r x y H2 Q) := ⟨id⟩
instance rd_un {r : V → Hp → VK → Prop} : Rd (tUn r ta σ H Q) (ta σ H fun x H1 => r x H1 Q) := ⟨id⟩
instance rd_asg {g : TG} : Rd (tAsg te g D σ H) (te σ H fun x H1 => g x σ H1 D.nx) := ⟨id⟩
instance rd_gName [h : SetS σ n v τ] : Rd (gName n v σ H S) (S τ H) := ⟨fun k => by unfold gName; rw [h.eq]; exact k⟩
instance rd_cons {Q : List V → Hp → Prop} : Rd (tCons ta tr σ H Q) (ta σ H fun x H1 => tr σ H1 fun xs H2 => Q (x :: xs) H2) := ⟨id⟩
instance rd_nil {Q : List V → Hp → Prop} : Rd (tNil σ H Q) (Q [] H) := ⟨id⟩
instance rd_add : Rd (oAdd (.int i) (.int j) H Q) (Q (.int (i + j)) H) := ⟨r_add⟩
instance rd_sub : Rd (oSub (.int i) (.int j) H Q) (Q (.int (i - j)) H) := ⟨r_sub⟩
instance rd_lt : Rd (oLt (.int i) (.int j) H Q) (Q (.bl (decide (i < j))) H) := ⟨r_lt⟩
instance rd_le : Rd (oLe (.int i) (.int j) H Q) (Q (.bl (decide (i ≤ j))) H) := ⟨r_le⟩
instance rd_gt : Rd (oGt (.int i) (.int j) H Q) (Q (.bl (decide (j < i))) H) := ⟨r_gt⟩
instance rd_ge : Rd (oGe (.int i) (.int j) H Q) (Q (.bl (decide (j ≤ i))) H) := ⟨r_ge⟩
instance rd_neg : Rd (rU (fun i => .int (-i)) (.int i) H Q) (Q (.int (-i)) H) := ⟨r_neg⟩
instance rd_eqI : Rd (rEq (.int i) (.int j) H Q) (Q (.bl (decide (i = j))) H) := ⟨r_eqI⟩
instance rd_neI : Rd (rNe (.int i) (.int j) H Q) (Q (.bl (!decide (i = j))) H) := ⟨r_neI⟩
instance rd_eqS {u w : Str} : Rd (rEq (.str u) (.str w) H Q) (Q (.bl (decide (u = w))) H) := ⟨r_eqS⟩
instance rd_neS {u w : Str} : Rd (rNe (.str u) (.str w) H Q) (Q (.bl (!decide (u = w))) H) := ⟨r_neS⟩
instance rd_isN : Rd (rIsN x .non H Q) (Q (.bl (decide (x = .non))) H) := ⟨r_isN⟩
instance rd_notN : Rd (rNotN x .non H Q) (Q (.bl (!decide (x = .non))) H) := ⟨r_notN⟩
instance rd_test : Rd (tTest te σ H P) (te σ H fun x H1 => kBool x H1 P) := ⟨id⟩
instance rd_B : Rd (tB te σ H P) (te σ H fun x H1 => kBool x H1 P) := ⟨id⟩
instance rd_kBool : Rd (kBool (.bl b) H P) (P b H) := ⟨r_kBool⟩
instance rd_not : Rd (tNot c σ H P) (c σ H fun b H1 => P (!b) H1) := ⟨id⟩
instance rd_and : Rd (tAnd c1 c2 σ H P) (c1 σ H fun b H1 => kIf b (c2 σ H1 P) (P false H1)) := ⟨id⟩
instance rd_or : Rd (tOr c1 c2 σ H P) (c1 σ H fun b H1 => kIf b (P true H1) (c2 σ H1 P)) := ⟨id⟩
instance rd_if : Rd (tIf c ta tb σ H Q) (c σ H fun b H1 => kIf b (ta σ H1 Q) (tb σ H1 Q)) := ⟨id⟩
instance rd_ifS : Rd (tIfS c t1 t2 D σ H) (c σ H fun b H1 => kIf b (t1 D σ H1) (t2 D σ H1)) := ⟨id⟩
instance rd_andV : Rd (tAndV ta tb σ H Q) (ta σ H fun x H1 => kBool x H1 fun b H2 => kIf b (tb σ H2 Q) (Q (.bl false) H2)) := ⟨id⟩
instance rd_orV : Rd (tOrV ta tb σ H Q) (ta σ H fun x H1 => kBool x H1 fun b H2 => kIf b (Q (.bl true) H2) (tb σ H2 Q)) := ⟨id⟩
instance rd_notV : Rd (tNotV ta σ H Q) (ta σ H fun x H1 => kBool x H1 fun b H2 => Q (.bl (!b)) H2) := ⟨id⟩
instance rd_chain {r r' : R2} : Rd (tChain r r' ta tb tc σ H Q) (ta σ H fun x H1 => tb σ H1 fun y H2 => r x y H2 fun z H3 => kBool z H3 fun b H4 => kIf b (tc σ H4 fun w H5 => r' y w H5 Q) (Q (.bl false) H4)) := ⟨id⟩
instance rd_yes : Rd (tYes σ H P) (P true H) := ⟨id⟩
instance rd_kT : Rd (kIf true A B) A := ⟨id⟩
instance rd_kF : Rd (kIf false A B) B := ⟨id⟩
instance rd_kNF : Rd (kIf (!false) A B) A := ⟨id⟩
instance rd_kNT : Rd (kIf (!true) A B) B := ⟨id⟩
instance rd_kIn {α : Type} : Rd (kIf (Option.isSome (none : Option α)) A B) B := ⟨id⟩
instance rd_kIs {α : Type} {u : α} : Rd (kIf (Option.isSome (some u)) A B) A := ⟨id⟩
instance rd_kNin {α : Type} : Rd (kIf (!Option.isSome (none : Option α)) A B) A := ⟨id⟩
instance rd_kNis {α : Type} {u : α} : Rd (kIf (!Option.isSome (some u)) A B) B := ⟨id⟩
instance rd_fld : Rd (tFld K ta f σ H Q) (ta σ H fun x H1 => kFld K f x H1 Q) := ⟨id⟩
instance rd_tup : Rd (tTup t σ H Q) (t σ H fun xs H1 => kTup xs H1 Q) := ⟨id⟩
instance rd_lst : Rd (tLst t σ H Q) (t σ H fun xs H1 => kLst xs H1 Q) := ⟨id⟩
instance rd_call {sp : Sp} {dvs : List V} {E : XK} : Rd (tCall sp dvs E t σ H Q) (t σ H fun vs H1 => sp (vs ++ dvs) H1 Q E) := ⟨id⟩
instance rd_meth {C : Addr} {sp : Sp} {dvs : List V} {E : XK} : Rd (tMeth C m sp dvs E ta t σ H Q) (ta σ H fun x H1 => kMeth C m sp dvs E σ t x H1 Q) := ⟨id⟩
instance rd_make {C : Addr} {sp : Sp} {E : XK} : Rd (tMake C sp [] E t σ H Q) (t σ H fun vs H1 => kMake C sp E (vs ++ []) H1 Q) := ⟨id⟩
instance rd_CB {r : List V → Hp → VK → Prop} : Rd (tCB r t σ H Q) (t σ H fun vs H1 => r vs H1 Q) := ⟨id⟩
instance rd_min2 : Rd (cMin2 [.int i, .int j] H Q) (Q (.int (if j < i then j else i)) H) := ⟨r_min2⟩
instance rd_max2 : Rd (cMax2 [.int i, .int j] H Q) (Q (.int (if j > i then j else i)) H) := ⟨r_max2⟩
instance rd_intB : Rd (cInt [.bl b] H Q) (Q (.int (if b then 1 else 0)) H) := ⟨r_intB⟩
instance rd_intI : Rd (cInt [.int i] H Q) (Q (.int i) H) := ⟨r_intI⟩
instance rd_BM {T : String} {r : V → List V → Hp → VK → Prop} : Rd (tBM K T r ta t σ H Q) (ta σ H fun x H1 => kBM K T r σ t x H1 Q) := ⟨id⟩
instance rd_BM0 {T : String} {r : V → List V → Hp → VK → Prop} : Rd (tBM0 K T r ta σ H Q) (ta σ H fun x H1 => kBM K T r σ tNil x H1 Q) := ⟨id⟩
instance rd_kBMS {r : V → List V → Hp → VK → Prop} {u : Str} : Rd (kBM K "str" r σ t (.str u) H Q) (t σ H fun ys H2 => r (.str u) ys H2 Q) := ⟨r_kBMS⟩
instance rd_sl {r : V → Option Int → Option Int → Hp → VK → Prop} {tl th : TO} : Rd (tSl r te tl th σ H Q) (te σ H fun x H1 => tl σ H1 fun l H2 => th σ H2 fun u H3 => r x l u H3 Q) := ⟨id⟩
instance rd_part {Q : Option Int → Hp → Prop} : Rd (tPart te σ H Q) (te σ H fun x H1 => kPart x H1 Q) := ⟨id⟩
instance rd_kPart {Q : Option Int → Hp → Prop} : Rd (kPart (.int i) H Q) (Q (some i) H) := ⟨r_kPart⟩
instance rd_noPart {Q : Option Int → Hp → Prop} : Rd (tNoPart σ H Q) (Q none H) := ⟨id⟩
instance rd_dget : Rd (tDGet td ty σ H Q) (td σ H fun x H1 => ty σ H1 fun y H2 => kDGet x y H2 Q) := ⟨id⟩
instance rd_din : Rd (tDIn ty td σ H Q) (ty σ H fun y H1 => td σ H1 fun x H2 => kDIn x y H2 Q) := ⟨id⟩
instance rd_dnotin : Rd (tDNotIn ty td σ H Q) (ty σ H fun y H1 => td σ H1 fun x H2 => kDNotIn x y H2 Q) := ⟨id⟩
instance rd_pop1 : Rd (tDPop1 td ty σ H Q) (td σ H fun x H1 => kPop1 ty σ x H1 Q) := ⟨id⟩
instance rd_gTup {u : TGs} : Rd (gTup K n u v σ H S) (kUnT K n u v σ H S) := ⟨id⟩
instance rd_gCons {g : TG} {u : TGs} : Rd (gCons g u (v :: xs) σ H S) (g v σ H fun σ' H' => u xs σ' H' S) := ⟨r_gCons⟩
instance rd_gNil : Rd (gNil [] σ H S) (S σ H) := ⟨r_gNil⟩
instance rd_gSub {ti : TE} {s : TSet} : Rd (gSub ta ti s v σ H S) (ta σ H fun o H1 => ti σ H1 fun i H2 => s o i v H2 fun H3 => S σ H3) := ⟨id⟩
instance rd_sFld : Rd (sFld K ta tv f D σ H) (tv σ H fun y H1 => ta σ H1 fun x H2 => kSetF K f y x H2 fun H3 => D.nx σ H3) := ⟨id⟩
/-- o.f op= e -/
def kSetA (f : Str) (a C : Addr) (z : V) (R : Hp → Prop) : Hp → Prop := fun H3 => ∃ dx fs, H3 a = some (.ins C dx fs) ∧ fs.length < 1000 ∧ R (upd H3 a (.ins C dx (putF f z fs)))
def kAugF (K : PySem.W.Frag) (f : Str) (σ : St) (tv : TE) (rd : V → V → Hp → VK → Prop) (R : Hp → Prop) : V → Hp → Prop := fun x H1 => ∃ a C dx fs v, x = .ref a ∧ H1 a = some (.ins C dx fs) ∧ Cls K C ∧ NoAttr K C f ∧ fs.lookup f = some v ∧
  tv σ H1 fun y H2 => rd v y H2 fun z H3 => kSetA f a C z R H3
theorem r_augF {rd : V → V → Hp → VK → Prop} (k : ta σ H fun x H1 => kAugF K f σ tv rd (fun H4 => D.nx σ H4) x H1) : sFldAug K ta tv rd f D σ H := k
instance rd_augF {rd : V → V → Hp → VK → Prop} : Rd (sFldAug K ta tv rd f D σ H) (ta σ H fun x H1 => kAugF K f σ tv rd (fun H4 => D.nx σ H4) x H1) := ⟨r_augF⟩
theorem r_kAugF {rd : V → V → Hp → VK → Prop} {C dx : Addr} {fs : List (Str × V)} (h : H a = some (.ins C dx fs)) (c : Cls K C) (n : NoAttr K C f) (l : fs.lookup f = some v) (k : tv σ H fun y H2 => rd v y H2 fun z H3 => kSetA f a C z R H3) :
    kAugF K f σ tv rd R (.ref a) H := ⟨a, C, dx, fs, v, rfl, h, c, n, l, k⟩
theorem r_kSetA {C dx : Addr} {fs : List (Str × V)} (h : H a = some (.ins C dx fs)) (hl : fs.length < 1000) (k : R (upd H a (.ins C dx (putF f z fs)))) : kSetA f a C z R H := ⟨dx, fs, h, hl, k⟩
instance rd_drop : Rd (tDrop te D σ H) (te σ H fun _ H1 => D.nx σ H1) := ⟨id⟩
instance rd_ret : Rd (tRet te D σ H) (te σ H D.rt) := ⟨id⟩
instance rd_retN : Rd (tRetN D σ H) (D.rt .non H) := ⟨id⟩
instance rd_sDPut : Rd (sDPut td ty tv D σ H) (tv σ H fun v H1 => td σ H1 fun x H2 => ty σ H2 fun y H3 => kDPut v x y H3 fun H4 => D.nx σ H4) := ⟨r_sDPut⟩
instance rd_for {wi : TI} {g : TG} : Rd (tFor wi g ts D σ H) (wi σ H fun J H1 => kFor J g ts D σ H1) := ⟨id⟩
instance rd_iList {R : It → Hp → Prop} : Rd (iList K te σ H R) (te σ H fun x H1 => kIL K x H1 R) := ⟨id⟩
instance rd_iTup {R : It → Hp → Prop} : Rd (iTup K te σ H R) (te σ H fun x H1 => kIT K x H1 R) := ⟨id⟩
instance rd_iR1 {R : It → Hp → Prop} : Rd (iRng1 t σ H R) (t σ H fun vs H1 => kIR1 vs H1 R) := ⟨id⟩
instance rd_iR2 {R : It → Hp → Prop} : Rd (iRng2 t σ H R) (t σ H fun vs H1 => kIR2 vs H1 R) := ⟨id⟩
instance rd_iET {R : It → Hp → Prop} : Rd (iEnumT K t σ H R) (t σ H fun vs H1 => kIE K vs H1 R) := ⟨id⟩
def kPar (n1 n2 : Nat) (σ : St) (H : Hp) (S : St → Hp → Prop) : List V → Prop := fun vs => ∃ v w, vs = [v, w] ∧ S ((σ.set n1 (some v)).set n2 (some w)) H
instance rd_par {n1 n2 : Nat} : Rd (tPar n1 n2 t D σ H) (t σ H fun vs H1 => kPar n1 n2 σ H1 D.nx vs) := ⟨id⟩
instance rd_kPar {n1 n2 : Nat} {v w : V} {τ1 τ2 : St} [h1 : SetS σ n1 v τ1] [h2 : SetS τ1 n2 w τ2] : Rd (kPar n1 n2 σ H S [v, w]) (S τ2 H) := ⟨fun k => ⟨v, w, rfl, by rw [h1.eq, h2.eq]; exact k⟩⟩
def kPar3 (n1 n2 n3 : Nat) (σ : St) (H : Hp) (S : St → Hp → Prop) : List V → Prop := fun vs => ∃ u v w, vs = [u, v, w] ∧ S (((σ.set n1 (some u)).set n2 (some v)).set n3 (some w)) H
instance rd_par3 {n1 n2 n3 : Nat} : Rd (tPar3 n1 n2 n3 t D σ H) (t σ H fun vs H1 => kPar3 n1 n2 n3 σ H1 D.nx vs) := ⟨id⟩
instance rd_kPar3 {n1 n2 n3 : Nat} {u v w : V} {τ1 τ2 τ3 : St} [h1 : SetS σ n1 u τ1] [h2 : SetS τ1 n2 v τ2] [h3 : SetS τ2 n3 w τ3] : Rd (kPar3 n1 n2 n3 σ H S [u, v, w]) (S τ3 H) := ⟨fun k => ⟨u, v, w, rfl, by rw [h1.eq, h2.eq, h3.eq]; exact k⟩⟩
/-- name op= e -/
def kAug (n : Nat) (te : TE) (ti : TIp) (σ : St) (H : Hp) (S : St → Hp → Prop) : V → Prop := fun x => te σ H fun y H1 => ti x y H1 fun z H2 => S (σ.set n (some z)) H2
instance rd_aug {ti : TIp} [h : GetS σ n v] : Rd (tAug n te ti D σ H) (te σ H fun y H1 => ti v y H1 fun z H2 => gName n z σ H2 D.nx) := ⟨fun k => ⟨v, h.eq, k⟩⟩
instance rd_ipI {g : Int → Int → Int} : Rd (ipI g (.int i) (.int j) H Q) (Q (.int (g i j)) H) := ⟨fun k => ⟨i, j, rfl, rfl, k⟩⟩
instance rd_augS {to ti : TE} {tg : V → V → Hp → VK → Prop} {tip : TIp} {s : TSet} : Rd (tAugS to ti te tg tip s D σ H) (to σ H fun o H1 => ti σ H1 fun i H2 => tg o i H2 fun x H3 => te σ H3 fun y H4 => tip x y H4 fun z H5 => s o i z H5 fun H6 => D.nx σ H6) := ⟨id⟩
instance rd_rAdd : Rd (L2.rAdd (.int i) (.int j) H Q) (Q (.int (i + j)) H) := ⟨fun k => ⟨i, j, rfl, rfl, k⟩⟩
instance rd_rSub : Rd (L2.rSub (.int i) (.int j) H Q) (Q (.int (i - j)) H) := ⟨fun k => ⟨i, j, rfl, rfl, k⟩⟩
end
theorem rd_step {A B : Prop} [h : Rd A B] (k : B) : A := h.by_ k
end Qn

/-! Q1: the lines as plain data, and how a heap bears them. -/
namespace Qn
open PySem L2
/-! ### plain data -/
structure Card where
  line : Nat
  q : Int
  sh : Int
  rdy : Bool
  sp : List Int
structure Rul where
  lines : List (Int × Int)
  boost : Option Int
  kept : Bool
structure LSt where
  cards : List (Int × Card)
  rows : List (List Int)
  time : Int
namespace Rul
def q (R : Rul) (l : Nat) : Int := (R.lines.getD l (0, 0)).1
def s (R : Rul) (l : Nat) : Int := (R.lines.getD l (0, 0)).2
structure Ok (R : Rul) : Prop where
  one : 1 ≤ R.lines.length
  four : R.lines.length ≤ 4
  each : ∀ p ∈ R.lines, 1 ≤ p.1 ∧ p.1 ≤ 8 ∧ p.1 ≤ p.2 ∧ p.2 ≤ 40
  boosts : ∀ b, R.boost = some b → 5 ≤ b ∧ b ≤ 100
theorem Ok.at {R : Rul} (h : R.Ok) {l : Nat} (hl : l < R.lines.length) : 1 ≤ R.q l ∧ R.q l ≤ 8 ∧ R.q l ≤ R.s l ∧ R.s l ≤ 40 := by
  have e : R.lines.getD l (0, 0) = R.lines[l] := by simp [List.getD, hl]
  unfold Rul.q Rul.s
  rw [e]
  exact h.each _ (List.getElem_mem hl)
end Rul
def look : List (Int × Card) → Int → Option Card
  | [], _ => none
  | p :: r, t => if p.1 = t then some p.2 else look r t
namespace LSt
def upC (S : LSt) (t : Int) (f : Card → Card) : LSt := { S with cards := S.cards.map fun p => if p.1 = t then (p.1, f p.2) else p }
def upR (S : LSt) (l : Nat) (f : List Int → List Int) : LSt := { S with rows := S.rows.modify l f }
def at_ (S : LSt) (t : Int) (z : Int) : LSt := { S with time := z }
def row (S : LSt) (l : Nat) : List Int := S.rows.getD l []
def lay (R : Rul) (S : LSt) (t : Int) (l : Nat) : LSt := (S.upC t fun c => { c with line := l, q := R.q l }).upR l (· ++ [t])
def card (S : LSt) (t : Int) : Card := (look S.cards t).getD ⟨0, 0, 0, false, []⟩
def fresh (R : Rul) (n : Nat) : Card := ⟨0, 0, R.s 0, true, List.replicate n 0⟩
def come (R : Rul) (S : LSt) (t : Int) : LSt := lay R { S with cards := S.cards ++ [(t, fresh R S.rows.length)] } t 0
def drop (S : LSt) (t : Int) : LSt := { S with cards := S.cards.filter fun p => decide (p.1 ≠ t) }
def go (S : LSt) (t : Int) : LSt := if (S.card t).rdy then (S.drop t).upR (S.card t).line (·.erase t) else S.drop t
def wait (S : LSt) (t : Int) : LSt := (S.upC t fun c => { c with rdy := false }).upR (S.card t).line (·.erase t)
def wake (R : Rul) (S : LSt) (t : Int) : LSt := lay R (S.upC t fun c => { c with rdy := true, sh := if R.kept then c.sh else R.s c.line }) t (S.card t).line
def clear (R : Rul) (S : LSt) : LSt := { cards := S.cards.map fun p => (p.1, { p.2 with line := 0, sh := R.s 0 }), rows := S.row 0 :: List.replicate (S.rows.length - 1) [], time := S.time }
def boosted (R : Rul) (S : LSt) : LSt := (S.rows.drop 1).flatten.foldl (fun S t => lay R S t 0) (S.clear R)
def rdyIx (S : LSt) : List Nat := (List.range S.rows.length).filter fun j => !(S.row j).isEmpty
def first (S : LSt) : Option Int := match S.rdyIx with
  | [] => none
  | j :: _ => some ((S.row j).headD 0)
def due (R : Rul) (S : LSt) : Bool := match R.boost with
  | none => false
  | some b => decide (0 < S.time) && decide (S.time % b = 0)
def boostNow (R : Rul) (S : LSt) : LSt := if S.due R then S.boosted R else S
/-- task t has run so many moments -/
def charge (R : Rul) (S : LSt) (t : Int) (many : Int) : LSt :=
  let c := S.card t
  let S1 := S.upC t fun c => { c with sp := c.sp.modify c.line (· + many), q := c.q - many, sh := c.sh - many }
  if c.sh - many = 0 then
    let l := min (S.rows.length - 1) (c.line + 1)
    let S2 := S1.upC t fun c => { c with sh := R.s l }
    if c.line < S.rows.length - 1 ∨ c.q - many = 0 then lay R (S2.upR c.line (·.erase t)) t l else S2
  else if c.q - many = 0 then lay R (S1.upR c.line (·.erase t)) t c.line
  else S1
def run (R : Rul) (S : LSt) (many : Int) : LSt := match ({ S with time := S.time + many } : LSt).first with
  | none => { S with time := S.time + many }
  | some t => charge R { S with time := S.time + many } t many
def ran (S : LSt) : Option (Int × Nat) := match S.first with
  | none => none
  | some t => some (t, (S.card t).line)
def tick (R : Rul) (S : LSt) : LSt := run R (S.boostNow R) 1
end LSt

/-! ### lookups -/
theorem look_mem {cs : List (Int × Card)} {t : Int} {c : Card} (h : look cs t = some c) : (t, c) ∈ cs := by
  induction cs with
  | nil => cases h
  | cons p r ih =>
    unfold look at h
    by_cases e : p.1 = t
    · rw [if_pos e] at h
      have e2 := Option.some.inj h
      have e3 : p = (t, c) := by rw [← e, ← e2]
      rw [e3]; exact List.mem_cons_self
    · rw [if_neg e] at h
      exact List.mem_cons_of_mem _ (ih h)
theorem look_up {cs : List (Int × Card)} {t u : Int} {f : Card → Card} : look (cs.map fun p => if p.1 = t then (p.1, f p.2) else p) u = if u = t then (look cs u).map f else look cs u := by
  induction cs with
  | nil => simp [look]
  | cons p r ih =>
    rw [List.map_cons]
    by_cases e : p.1 = t
    · rw [if_pos e]
      unfold look
      by_cases e2 : p.1 = u
      · rw [if_pos e2, if_pos e2, if_pos (by rw [← e2, e])]; rfl
      · rw [if_neg e2, if_neg e2]; exact ih
    · rw [if_neg e]
      unfold look
      by_cases e2 : p.1 = u
      · rw [if_pos e2, if_pos e2, if_neg (by rw [← e2]; exact e)]
      · rw [if_neg e2, if_neg e2]; exact ih
theorem look_map {cs : List (Int × Card)} {u : Int} {f : Card → Card} : look (cs.map fun p => (p.1, f p.2)) u = (look cs u).map f := by
  induction cs with
  | nil => rfl
  | cons p r ih =>
    rw [List.map_cons]
    unfold look
    by_cases e2 : p.1 = u
    · rw [if_pos e2, if_pos e2]; rfl
    · rw [if_neg e2, if_neg e2]; exact ih
theorem look_snoc {cs : List (Int × Card)} {t u : Int} {c : Card} (h : look cs t = none) : look (cs ++ [(t, c)]) u = if u = t then some c else look cs u := by
  induction cs with
  | nil =>
    by_cases e : t = u
    · simp [look, e]
    · simp [look, e, Ne.symm e]
  | cons p r ih =>
    rw [List.cons_append]
    unfold look at h ⊢
    by_cases e : p.1 = t
    · rw [if_pos e] at h; cases h
    · rw [if_neg e] at h
      by_cases e2 : p.1 = u
      · rw [if_pos e2, if_pos e2, if_neg (by rw [← e2]; exact e)]
      · rw [if_neg e2, if_neg e2]; exact ih h
theorem look_drop {cs : List (Int × Card)} {t u : Int} : look (cs.filter fun p => decide (p.1 ≠ t)) u = if u = t then none else look cs u := by
  induction cs with
  | nil => simp [look]
  | cons p r ih =>
    by_cases e : p.1 = t
    · rw [List.filter_cons_of_neg (by simp [e]), ih]
      by_cases e2 : u = t
      · rw [if_pos e2, if_pos e2]
      · rw [if_neg e2, if_neg e2]
        conv => rhs; unfold look
        rw [if_neg (by rw [e]; exact fun z => e2 z.symm)]
    · rw [List.filter_cons_of_pos (by simp [e])]
      unfold look
      by_cases e2 : p.1 = u
      · rw [if_pos e2, if_neg (by rw [← e2]; exact e), if_pos e2]
      · rw [if_neg e2, ih, if_neg e2]
/-! the same in the dict of references -/
def refs (g : Int → Addr) (cs : List (Int × Card)) : List (Key × V) := cs.map fun p => (Sum.inl p.1, V.ref (g p.1))
theorem valV_refs {g : Int → Addr} {cs : List (Int × Card)} {t : Int} : valV (refs g cs) (Sum.inl t) = (look cs t).map fun _ => V.ref (g t) := by
  induction cs with
  | nil => rfl
  | cons p r ih =>
    unfold refs look
    rw [List.map_cons]
    by_cases e : p.1 = t
    · rw [valV_pos (by rw [e]), if_pos e, e]; rfl
    · rw [valV_neg (by intro z; exact e (Sum.inl.inj z)), if_neg e]; exact ih
theorem refs_up {g : Int → Addr} {cs : List (Int × Card)} {t : Int} {f : Card → Card} : refs g (cs.map fun p => if p.1 = t then (p.1, f p.2) else p) = refs g cs := by
  unfold refs
  rw [List.map_map]
  apply List.map_congr_left
  intro p _
  by_cases e : p.1 = t
  · simp [e]
  · simp [e]
theorem refs_map {g : Int → Addr} {cs : List (Int × Card)} {f : Card → Card} : refs g (cs.map fun p => (p.1, f p.2)) = refs g cs := by
  unfold refs
  rw [List.map_map]; rfl
theorem refs_drop {g : Int → Addr} {cs : List (Int × Card)} {t : Int} : dropK (refs g cs) (Sum.inl t) = refs g (cs.filter fun p => decide (p.1 ≠ t)) := by
  unfold refs dropK
  rw [List.filter_map]
  congr 1
  apply List.filter_congr
  intro p _
  simp [Function.comp]
theorem refs_put {g : Int → Addr} {cs : List (Int × Card)} {t : Int} {c : Card} {x : Addr} (h : look cs t = none) :
    putK (refs g cs) (Sum.inl t) (V.ref x) = refs (fun u => if u = t then x else g u) (cs ++ [(t, c)]) := by
  rw [putK_new _ (by rw [valV_refs, h]; rfl)]
  unfold refs
  rw [List.map_append]
  congr 1
  · apply List.map_congr_left
    intro p hp
    have ne : p.1 ≠ t := by
      intro e
      have : ∀ (cs : List (Int × Card)), p ∈ cs → look cs p.1 ≠ none := by
        intro cs hm
        induction cs with
        | nil => cases hm
        | cons q r ih =>
          unfold look
          by_cases e2 : q.1 = p.1
          · rw [if_pos e2]; simp
          · rw [if_neg e2]
            rcases List.mem_cons.mp hm with z | z
            · exact absurd (by rw [z]) e2
            · exact ih z
      exact this cs hp (by rw [e]; exact h)
    simp [ne]
  · simp

/-! ### how a heap bears it -/
inductive LC where
  | self | cards | rws | row (i : Nat) | card (t : Int) | spt (t : Int)
  deriving DecidableEq
structure Geo where
  adr : LC → Addr
  dx : Addr
  cdx : Int → Addr
  ra : Addr
def LF (g : Geo) (z : Int) : List (Str × V) := [("rules", .ref g.ra), ("cards", .ref (g.adr .cards)), ("rows", .ref (g.adr .rws)), ("time", .int z)]
def CF (c : Card) (s : Addr) : List (Str × V) := [("line", .int c.line), ("quantum", .int c.q), ("share", .int c.sh), ("is_ready", .bl c.rdy), ("spent", .ref s)]
/-- how the whole and a card look; no tuples -/
structure Kd where
  self : Geo → Int → HO
  card : Geo → Int → Card → Addr → HO
  self_no : ∀ g z xs, self g z ≠ .tup xs
  card_no : ∀ g t c s xs, card g t c s ≠ .tup xs
  card_sp : ∀ g t (c : Card) s xs, card g t { c with sp := xs } s = card g t c s
  self_at : ∀ g g' z, g'.dx = g.dx → g'.ra = g.ra → g'.adr .cards = g.adr .cards → g'.adr .rws = g.adr .rws → self g' z = self g z
  card_at : ∀ g g' t c s, g'.cdx t = g.cdx t → card g' t c s = card g t c s
def LKd (CL CC : Addr) : Kd where
  self := fun g z => .ins CL g.dx (LF g z)
  card := fun g t c s => .ins CC (g.cdx t) (CF c s)
  self_no := fun _ _ _ e => nomatch e
  card_no := fun _ _ _ _ _ e => nomatch e
  card_sp := fun _ _ _ _ _ => rfl
  self_at := fun g g' z h1 h2 h3 h4 => by unfold LF; rw [h1, h2, h3, h4]
  card_at := fun g g' t c s h => by rw [h]
def lcont (kd : Kd) (g : Geo) (S : LSt) : LC → Option HO
  | .self => some (kd.self g S.time)
  | .cards => some (.dK (refs (fun t => g.adr (.card t)) S.cards))
  | .rws => some (.lst ((List.range S.rows.length).map fun i => V.ref (g.adr (.row i))))
  | .row i => (S.rows[i]?).map fun xs => .lst (xs.map V.int)
  | .card t => (look S.cards t).map fun c => kd.card g t c (g.adr (.spt t))
  | .spt t => (look S.cards t).map fun c => .lst (c.sp.map V.int)
def live (S : LSt) : LC → Prop
  | .row i => i < S.rows.length
  | .card t => look S.cards t ≠ none
  | .spt t => look S.cards t ≠ none
  | _ => True
def Foot (g : Geo) (S : LSt) (a : Addr) : Prop := ∃ i, live S i ∧ g.adr i = a
structure LR (kd : Kd) (g : Geo) (S : LSt) (H : Hp) : Prop where
  there : ∀ i o, lcont kd g S i = some o → H (g.adr i) = some o
  inj : ∀ i j, live S i → live S j → g.adr i = g.adr j → i = j
section
variable {kd : Kd} {g : Geo} {S S' : LSt} {H H' : Hp}
theorem live_cont {i : LC} (h : live S i) : ∃ o, lcont kd g S i = some o := by
  cases i with
  | self => exact ⟨_, rfl⟩
  | cards => exact ⟨_, rfl⟩
  | rws => exact ⟨_, rfl⟩
  | row i =>
    have h' : i < S.rows.length := h
    exact ⟨_, by simp only [lcont]; rw [List.getElem?_eq_getElem h']; rfl⟩
  | card t =>
    have h' : look S.cards t ≠ none := h
    cases e : look S.cards t with
    | none => exact absurd e h'
    | some c => exact ⟨_, by simp only [lcont]; rw [e]; rfl⟩
  | spt t =>
    have h' : look S.cards t ≠ none := h
    cases e : look S.cards t with
    | none => exact absurd e h'
    | some c => exact ⟨_, by simp only [lcont]; rw [e]; rfl⟩
theorem cont_live {i : LC} {o : HO} (h : lcont kd g S i = some o) : live S i := by
  cases i with
  | self => trivial
  | cards => trivial
  | rws => trivial
  | row i =>
    simp only [lcont] at h
    cases e : S.rows[i]? with
    | none => rw [e] at h; cases h
    | some xs => exact (List.getElem?_eq_some_iff.mp e).1
  | card t =>
    simp only [lcont] at h
    show look S.cards t ≠ none
    intro e; rw [e] at h; cases h
  | spt t =>
    simp only [lcont] at h
    show look S.cards t ≠ none
    intro e; rw [e] at h; cases h
theorem cont_noTup {i : LC} {o : HO} (h : lcont kd g S i = some o) : ∀ xs, o ≠ .tup xs := by
  intro xs e
  subst e
  cases i with
  | self => exact kd.self_no _ _ _ (Option.some.inj h)
  | cards => cases h
  | rws => cases h
  | row i => simp only [lcont] at h; cases e : S.rows[i]? <;> rw [e] at h <;> cases h
  | card t =>
    simp only [lcont] at h
    cases e : look S.cards t with
    | none => rw [e] at h; cases h
    | some c => rw [e] at h; exact kd.card_no _ _ _ _ _ (Option.some.inj h)
  | spt t => simp only [lcont] at h; cases e : look S.cards t <;> rw [e] at h <;> cases h
theorem LR.owned (h : LR kd g S H) {a : Addr} (w : Foot g S a) : ∃ o, H a = some o ∧ ∀ xs, o ≠ .tup xs := by
  obtain ⟨i, hi, rfl⟩ := w
  obtain ⟨o, ho⟩ := live_cont (kd := kd) (g := g) hi
  exact ⟨o, h.there i o ho, cont_noTup ho⟩
/-- the heap changes elsewhere -/
theorem LR.keep (h : LR kd g S H) (k : ∀ a, Foot g S a → H' a = H a) : LR kd g S H' :=
  ⟨fun i o e => (k _ ⟨i, cont_live e, rfl⟩).trans (h.there i o e), h.inj⟩
theorem LR.same (h : LR kd g S H) (k : Same H H') : LR kd g S H' :=
  ⟨fun i o e => k _ _ (h.there i o e), h.inj⟩
theorem LR.frame {U : Addr → Prop} (h : LR kd g S H) (k : Frame U H H') (d : ∀ a, U a → ¬ Foot g S a) : LR kd g S H' :=
  ⟨fun i o e => k.1 _ _ (h.there i o e) fun z => d _ z ⟨i, cont_live e, rfl⟩, h.inj⟩
/-- one cell changes -/
theorem LR.set {i : LC} {o : HO} (h : LR kd g S H) (hl : live S i) (he : lcont kd g S' i = some o) (hs : ∀ j, j ≠ i → lcont kd g S' j = lcont kd g S j) : LR kd g S' (upd H (g.adr i) o) := by
  have lv : ∀ j, live S' j → live S j := fun j hj => by
    by_cases e : j = i
    · rw [e]; exact hl
    · obtain ⟨u, hu⟩ := live_cont (kd := kd) (g := g) hj
      rw [hs j e] at hu
      exact cont_live hu
  refine ⟨fun j u e => ?_, fun j k hj hk => h.inj j k (lv j hj) (lv k hk)⟩
  by_cases ej : j = i
  · subst ej
    rw [he] at e
    rw [upd_same, Option.some.inj e]
  · rw [hs j ej] at e
    rw [upd_ne fun z => ej (h.inj j i (cont_live e) hl z)]
    exact h.there j u e
theorem LR.hself (h : LR kd g S H) : H (g.adr .self) = some (kd.self g S.time) := h.there _ _ rfl
theorem LR.hcards (h : LR kd g S H) : H (g.adr .cards) = some (.dK (refs (fun t => g.adr (.card t)) S.cards)) := h.there _ _ rfl
theorem LR.hrws (h : LR kd g S H) : H (g.adr .rws) = some (.lst ((List.range S.rows.length).map fun i => V.ref (g.adr (.row i)))) := h.there _ _ rfl
theorem LR.hrow (h : LR kd g S H) {i : Nat} {xs : List Int} (e : S.rows[i]? = some xs) : H (g.adr (.row i)) = some (.lst (xs.map V.int)) := h.there _ _ (by simp only [lcont]; rw [e]; rfl)
theorem LR.hcard (h : LR kd g S H) {t : Int} {c : Card} (e : look S.cards t = some c) : H (g.adr (.card t)) = some (kd.card g t c (g.adr (.spt t))) := h.there _ _ (by simp only [lcont]; rw [e]; rfl)
theorem LR.hspt (h : LR kd g S H) {t : Int} {c : Card} (e : look S.cards t = some c) : H (g.adr (.spt t)) = some (.lst (c.sp.map V.int)) := h.there _ _ (by simp only [lcont]; rw [e]; rfl)
/-! the changes by name -/
theorem cont_upC {t : Int} {f : Card → Card} {j : LC} (h1 : j ≠ .card t) (h2 : j ≠ .spt t) : lcont kd g (S.upC t f) j = lcont kd g S j := by
  cases j with
  | self => rfl
  | cards => simp only [lcont, LSt.upC]; rw [refs_up]
  | rws => rfl
  | row i => rfl
  | card u =>
    have ne : u ≠ t := fun z => h1 (by rw [z])
    simp only [lcont, LSt.upC]; rw [look_up, if_neg ne]
  | spt u =>
    have ne : u ≠ t := fun z => h2 (by rw [z])
    simp only [lcont, LSt.upC]; rw [look_up, if_neg ne]
theorem look_upC {t u : Int} {f : Card → Card} : look (S.upC t f).cards u = if u = t then (look S.cards u).map f else look S.cards u := look_up
theorem LR.setC {t : Int} {c : Card} {f : Card → Card} (h : LR kd g S H) (e : look S.cards t = some c) (hf : (f c).sp = c.sp) :
    LR kd g (S.upC t f) (upd H (g.adr (.card t)) (kd.card g t (f c) (g.adr (.spt t)))) := by
  refine h.set (i := .card t) (by show look S.cards t ≠ none; rw [e]; simp) (by simp only [lcont]; rw [look_upC, if_pos rfl, e]; rfl) fun j hj => ?_
  by_cases h2 : j = .spt t
  · subst h2
    simp only [lcont]; rw [look_upC, if_pos rfl, e]
    show some (HO.lst ((f c).sp.map V.int)) = some (HO.lst (c.sp.map V.int))
    rw [hf]
  · exact cont_upC hj h2
theorem LR.setSp {t : Int} {c : Card} {f : List Int → List Int} (h : LR kd g S H) (e : look S.cards t = some c) :
    LR kd g (S.upC t fun c => { c with sp := f c.sp }) (upd H (g.adr (.spt t)) (.lst ((f c.sp).map V.int))) := by
  refine h.set (i := .spt t) (by show look S.cards t ≠ none; rw [e]; simp) (by simp only [lcont]; rw [look_upC, if_pos rfl, e]; rfl) fun j hj => ?_
  by_cases h2 : j = .card t
  · subst h2
    simp only [lcont]; rw [look_upC, if_pos rfl, e]; exact congrArg some (kd.card_sp _ _ _ _ _)
  · exact cont_upC h2 hj
theorem LR.setR {l : Nat} {xs : List Int} {f : List Int → List Int} (h : LR kd g S H) (e : S.rows[l]? = some xs) :
    LR kd g (S.upR l f) (upd H (g.adr (.row l)) (.lst ((f xs).map V.int))) := by
  have hl := (List.getElem?_eq_some_iff.mp e).1
  refine h.set (i := .row l) hl (by
    simp only [lcont, LSt.upR]
    rw [List.getElem?_modify_eq, e]; rfl) fun j hj => ?_
  cases j with
  | self => rfl
  | cards => rfl
  | rws => simp only [lcont, LSt.upR, List.length_modify]
  | row i =>
    have ne : l ≠ i := fun z => hj (by rw [z])
    simp only [lcont, LSt.upR]
    rw [List.getElem?_modify_ne _ _ ne]
  | card u => rfl
  | spt u => rfl
theorem LR.setT {z : Int} (h : LR kd g S H) : LR kd g { S with time := z } (upd H (g.adr .self) (kd.self g z)) :=
  h.set (i := .self) trivial rfl fun j hj => by
    cases j with
    | self => exact absurd rfl hj
    | cards => rfl
    | rws => rfl
    | row i => rfl
    | card u => rfl
    | spt u => rfl
theorem LR.drop {t : Int} (h : LR kd g S H) : LR kd g (S.drop t) (upd H (g.adr .cards) (.dK (refs (fun t => g.adr (.card t)) (S.drop t).cards))) := by
  have sub : ∀ j o, j ≠ .cards → lcont kd g (S.drop t) j = some o → lcont kd g S j = some o := fun j o hj e => by
    cases j with
    | self => exact e
    | cards => exact absurd rfl hj
    | rws => exact e
    | row i => exact e
    | card u =>
      simp only [lcont, LSt.drop] at e
      rw [look_drop] at e
      by_cases eu : u = t
      · rw [if_pos eu] at e; cases e
      · rw [if_neg eu] at e; exact e
    | spt u =>
      simp only [lcont, LSt.drop] at e
      rw [look_drop] at e
      by_cases eu : u = t
      · rw [if_pos eu] at e; cases e
      · rw [if_neg eu] at e; exact e
  have lv : ∀ j, live (S.drop t) j → live S j := fun j hj => by
    by_cases e : j = .cards
    · subst e; trivial
    · obtain ⟨u, hu⟩ := live_cont (kd := kd) (g := g) hj
      exact cont_live (sub j u e hu)
  refine ⟨fun j u e => ?_, fun j k hj hk => h.inj j k (lv j hj) (lv k hk)⟩
  by_cases ej : j = .cards
  · subst ej
    have e' : some (HO.dK (refs (fun t => g.adr (.card t)) (S.drop t).cards)) = some u := e
    rw [upd_same, e']
  · rw [upd_ne fun z => ej (h.inj j .cards (lv j (cont_live e)) trivial z)]
    exact h.there j u (sub j u ej e)
end
end Qn

/-! Q2: promises by their arguments; fields; isinstance; rules in a heap. -/
namespace Qn
open PySem L2
/-! ### promises by their arguments -/
def sp1 (F : V → Hp → VK → XK → Prop) : Sp := fun vs H Q E => ∃ x, vs = [x] ∧ F x H Q E
def sp2 (F : V → V → Hp → VK → XK → Prop) : Sp := fun vs H Q E => ∃ x y, vs = [x, y] ∧ F x y H Q E
def sp3 (F : V → V → V → Hp → VK → XK → Prop) : Sp := fun vs H Q E => ∃ x y z, vs = [x, y, z] ∧ F x y z H Q E
def sp4 (F : V → V → V → V → Hp → VK → XK → Prop) : Sp := fun vs H Q E => ∃ x y z u, vs = [x, y, z, u] ∧ F x y z u H Q E
section
variable {vs : List V} {H : Hp} {Q : VK} {E : XK}
theorem sp1_len {F : V → Hp → VK → XK → Prop} {p : Str} (h : sp1 F vs H Q E) : vs.length = [p].length := by obtain ⟨_, rfl, _⟩ := h; rfl
theorem sp2_len {F : V → V → Hp → VK → XK → Prop} {p q : Str} (h : sp2 F vs H Q E) : vs.length = [p, q].length := by obtain ⟨_, _, rfl, _⟩ := h; rfl
theorem sp3_len {F : V → V → V → Hp → VK → XK → Prop} {p q r : Str} (h : sp3 F vs H Q E) : vs.length = [p, q, r].length := by obtain ⟨_, _, _, rfl, _⟩ := h; rfl
theorem sp4_len {F : V → V → V → V → Hp → VK → XK → Prop} {p q r t : Str} (h : sp4 F vs H Q E) : vs.length = [p, q, r, t].length := by obtain ⟨_, _, _, _, rfl, _⟩ := h; rfl
theorem sp1_mk {F : V → Hp → VK → XK → Prop} {x : V} (h : F x H Q E) : sp1 F [x] H Q E := ⟨x, rfl, h⟩
theorem sp2_mk {F : V → V → Hp → VK → XK → Prop} {x y : V} (h : F x y H Q E) : sp2 F [x, y] H Q E := ⟨x, y, rfl, h⟩
theorem sp3_mk {F : V → V → V → Hp → VK → XK → Prop} {x y z : V} (h : F x y z H Q E) : sp3 F [x, y, z] H Q E := ⟨x, y, z, rfl, h⟩
theorem sp4_mk {F : V → V → V → V → Hp → VK → XK → Prop} {x y z u : V} (h : F x y z u H Q E) : sp4 F [x, y, z, u] H Q E := ⟨x, y, z, u, rfl, h⟩
end
/-! ### fields -/
theorem lk_hit {f : Str} {v : V} {r : List (Str × V)} : List.lookup f ((f, v) :: r) = some v := by simp [List.lookup]
theorem lk_miss {f g : Str} {v : V} {r : List (Str × V)} (h : (f == g) = false) : List.lookup f ((g, v) :: r) = List.lookup f r := by simp [List.lookup, h]
theorem put_hit {f : Str} {v u : V} {r : List (Str × V)} : putF f v ((f, u) :: r) = (f, v) :: r := by
  unfold putF; rw [if_pos rfl]
theorem put_miss {f g : Str} {v u : V} {r : List (Str × V)} (h : (g == f) = false) : putF f v ((g, u) :: r) = (g, u) :: putF f v r := by
  have n : ¬ g = f := by intro e; rw [e] at h; simp at h
  conv => lhs; unfold putF
  rw [if_neg n]
theorem put_nil {f : Str} {v : V} : putF f v [] = [(f, v)] := rfl
section
variable {g : Geo} {z z' : Int} {c : Card} {s s' : Addr} {m : Str}
theorem lk_LF_rules : (LF g z).lookup ("rules" : Str) = some (.ref g.ra) := by unfold LF; exact lk_hit
theorem lk_LF_cards : (LF g z).lookup ("cards" : Str) = some (.ref (g.adr .cards)) := by unfold LF; rw [lk_miss (by decide +kernel)]; exact lk_hit
theorem lk_LF_rows : (LF g z).lookup ("rows" : Str) = some (.ref (g.adr .rws)) := by unfold LF; rw [lk_miss (by decide +kernel), lk_miss (by decide +kernel)]; exact lk_hit
theorem lk_LF_time : (LF g z).lookup ("time" : Str) = some (.int z) := by unfold LF; rw [lk_miss (by decide +kernel), lk_miss (by decide +kernel), lk_miss (by decide +kernel)]; exact lk_hit
theorem lk_LF_no (h1 : (m == "rules") = false) (h2 : (m == "cards") = false) (h3 : (m == "rows") = false) (h4 : (m == "time") = false) : (LF g z).lookup m = none := by
  unfold LF; rw [lk_miss h1, lk_miss h2, lk_miss h3, lk_miss h4]; rfl
theorem lk_CF_line : (CF c s).lookup ("line" : Str) = some (.int c.line) := by unfold CF; exact lk_hit
theorem lk_CF_quantum : (CF c s).lookup ("quantum" : Str) = some (.int c.q) := by unfold CF; rw [lk_miss (by decide +kernel)]; exact lk_hit
theorem lk_CF_share : (CF c s).lookup ("share" : Str) = some (.int c.sh) := by unfold CF; rw [lk_miss (by decide +kernel), lk_miss (by decide +kernel)]; exact lk_hit
theorem lk_CF_is_ready : (CF c s).lookup ("is_ready" : Str) = some (.bl c.rdy) := by unfold CF; rw [lk_miss (by decide +kernel), lk_miss (by decide +kernel), lk_miss (by decide +kernel)]; exact lk_hit
theorem lk_CF_spent : (CF c s).lookup ("spent" : Str) = some (.ref s) := by unfold CF; rw [lk_miss (by decide +kernel), lk_miss (by decide +kernel), lk_miss (by decide +kernel), lk_miss (by decide +kernel)]; exact lk_hit
theorem put_LF_time : putF "time" (.int z') (LF g z) = LF g z' := by unfold LF; rw [put_miss (by decide +kernel), put_miss (by decide +kernel), put_miss (by decide +kernel), put_hit]
theorem put_CF_line {l : Nat} : putF "line" (.int l) (CF c s) = CF { c with line := l } s := by unfold CF; rw [put_hit]
theorem put_CF_quantum {i : Int} : putF "quantum" (.int i) (CF c s) = CF { c with q := i } s := by unfold CF; rw [put_miss (by decide +kernel), put_hit]
theorem put_CF_share {i : Int} : putF "share" (.int i) (CF c s) = CF { c with sh := i } s := by unfold CF; rw [put_miss (by decide +kernel), put_miss (by decide +kernel), put_hit]
theorem put_CF_is_ready {b : Bool} : putF "is_ready" (.bl b) (CF c s) = CF { c with rdy := b } s := by unfold CF; rw [put_miss (by decide +kernel), put_miss (by decide +kernel), put_miss (by decide +kernel), put_hit]
theorem len_LF : (LF g z).length < 1000 := by show 4 < 1000; decide
theorem len_CF : (CF c s).length < 1000 := by show 5 < 1000; decide
end
/-! ### isinstance -/
def tyS : V → String
  | .non => "NoneType"
  | .bl _ => "bool"
  | .int _ => "int"
  | .str _ => "str"
  | _ => "?"
/-- a value that is no reference -/
def plainV : V → Bool
  | .non => true
  | .bl _ => true
  | .int _ => true
  | .str _ => true
  | _ => false
section
variable {K : PySem.W.Frag} {H : Hp} {Q : VK} {x : V} {t u : String} {b : Bool}
theorem ty_plain (h : plainV x = true) : TyX K H x (.type (tyS x)) := by
  cases x with
  | non => exact .base .non
  | bl k => exact .base (.bl k)
  | int i => exact .base (.int i)
  | str z => exact .base (.str z)
  | _ => cases h
theorem ty_list {a : Addr} {xs : List V} (h : SqL K H a xs) : TyX K H (.ref a) (.type "list") := by
  rcases h with (h | ⟨o, h⟩) | ⟨o, its, n, hk, hc, _⟩
  · exact .base (.lst h)
  · exact .base (.frz h)
  · exact .kList hk hc
theorem ty_tup {a : Addr} {xs : List V} (h : SqT K H a xs) : TyX K H (.ref a) (.type "tuple") := by
  rcases h with (h | ⟨o, h⟩) | ⟨o, its, n, hk, hc, _⟩
  · exact .base (.tup h)
  · exact .fTuple h
  · exact .kTuple hk hc
theorem r_isi (ty : TyX K H x (.type t)) (h : kitB t u = some b) (k : Q (.bl b) H) : rIsi K [x, .ty u] H Q := ⟨x, .ty u, .type t, .type u, b, rfl, .ty u, ty, kit_ty h, k⟩
end
theorem kb_NoneType_int : kitB "NoneType" "int" = some false := by decide +kernel
theorem kb_NoneType_bool : kitB "NoneType" "bool" = some false := by decide +kernel
theorem kb_NoneType_str : kitB "NoneType" "str" = some false := by decide +kernel
theorem kb_NoneType_tuple : kitB "NoneType" "tuple" = some false := by decide +kernel
theorem kb_NoneType_list : kitB "NoneType" "list" = some false := by decide +kernel
theorem kb_bool_int : kitB "bool" "int" = some true := by decide +kernel
theorem kb_bool_bool : kitB "bool" "bool" = some true := by decide +kernel
theorem kb_bool_str : kitB "bool" "str" = some false := by decide +kernel
theorem kb_bool_tuple : kitB "bool" "tuple" = some false := by decide +kernel
theorem kb_bool_list : kitB "bool" "list" = some false := by decide +kernel
theorem kb_int_int : kitB "int" "int" = some true := by decide +kernel
theorem kb_int_bool : kitB "int" "bool" = some false := by decide +kernel
theorem kb_int_str : kitB "int" "str" = some false := by decide +kernel
theorem kb_int_tuple : kitB "int" "tuple" = some false := by decide +kernel
theorem kb_int_list : kitB "int" "list" = some false := by decide +kernel
theorem kb_str_int : kitB "str" "int" = some false := by decide +kernel
theorem kb_str_bool : kitB "str" "bool" = some false := by decide +kernel
theorem kb_str_str : kitB "str" "str" = some true := by decide +kernel
theorem kb_str_tuple : kitB "str" "tuple" = some false := by decide +kernel
theorem kb_str_list : kitB "str" "list" = some false := by decide +kernel
theorem kb_tuple_int : kitB "tuple" "int" = some false := by decide +kernel
theorem kb_tuple_bool : kitB "tuple" "bool" = some false := by decide +kernel
theorem kb_tuple_str : kitB "tuple" "str" = some false := by decide +kernel
theorem kb_tuple_tuple : kitB "tuple" "tuple" = some true := by decide +kernel
theorem kb_tuple_list : kitB "tuple" "list" = some false := by decide +kernel
theorem kb_list_int : kitB "list" "int" = some false := by decide +kernel
theorem kb_list_bool : kitB "list" "bool" = some false := by decide +kernel
theorem kb_list_str : kitB "list" "str" = some false := by decide +kernel
theorem kb_list_tuple : kitB "list" "tuple" = some false := by decide +kernel
theorem kb_list_list : kitB "list" "list" = some true := by decide +kernel
section
variable {K : PySem.W.Frag} {H : Hp} {Q : VK} {i : Int} {c : Bool} {z : Str} {p : Addr} {xs : List V}
instance rd_isi_NoneType_int : Rd (rIsi K [.non, .ty "int"] H Q) (Q (.bl false) H) := ⟨fun k => r_isi (t := "NoneType") (.base .non) kb_NoneType_int k⟩
instance rd_isi_NoneType_bool : Rd (rIsi K [.non, .ty "bool"] H Q) (Q (.bl false) H) := ⟨fun k => r_isi (t := "NoneType") (.base .non) kb_NoneType_bool k⟩
instance rd_isi_NoneType_str : Rd (rIsi K [.non, .ty "str"] H Q) (Q (.bl false) H) := ⟨fun k => r_isi (t := "NoneType") (.base .non) kb_NoneType_str k⟩
instance rd_isi_NoneType_tuple : Rd (rIsi K [.non, .ty "tuple"] H Q) (Q (.bl false) H) := ⟨fun k => r_isi (t := "NoneType") (.base .non) kb_NoneType_tuple k⟩
instance rd_isi_NoneType_list : Rd (rIsi K [.non, .ty "list"] H Q) (Q (.bl false) H) := ⟨fun k => r_isi (t := "NoneType") (.base .non) kb_NoneType_list k⟩
instance rd_isi_bool_int : Rd (rIsi K [(.bl c), .ty "int"] H Q) (Q (.bl true) H) := ⟨fun k => r_isi (t := "bool") (.base (.bl _)) kb_bool_int k⟩
instance rd_isi_bool_bool : Rd (rIsi K [(.bl c), .ty "bool"] H Q) (Q (.bl true) H) := ⟨fun k => r_isi (t := "bool") (.base (.bl _)) kb_bool_bool k⟩
instance rd_isi_bool_str : Rd (rIsi K [(.bl c), .ty "str"] H Q) (Q (.bl false) H) := ⟨fun k => r_isi (t := "bool") (.base (.bl _)) kb_bool_str k⟩
instance rd_isi_bool_tuple : Rd (rIsi K [(.bl c), .ty "tuple"] H Q) (Q (.bl false) H) := ⟨fun k => r_isi (t := "bool") (.base (.bl _)) kb_bool_tuple k⟩
instance rd_isi_bool_list : Rd (rIsi K [(.bl c), .ty "list"] H Q) (Q (.bl false) H) := ⟨fun k => r_isi (t := "bool") (.base (.bl _)) kb_bool_list k⟩
instance rd_isi_int_int : Rd (rIsi K [(.int i), .ty "int"] H Q) (Q (.bl true) H) := ⟨fun k => r_isi (t := "int") (.base (.int _)) kb_int_int k⟩
instance rd_isi_int_bool : Rd (rIsi K [(.int i), .ty "bool"] H Q) (Q (.bl false) H) := ⟨fun k => r_isi (t := "int") (.base (.int _)) kb_int_bool k⟩
instance rd_isi_int_str : Rd (rIsi K [(.int i), .ty "str"] H Q) (Q (.bl false) H) := ⟨fun k => r_isi (t := "int") (.base (.int _)) kb_int_str k⟩
instance rd_isi_int_tuple : Rd (rIsi K [(.int i), .ty "tuple"] H Q) (Q (.bl false) H) := ⟨fun k => r_isi (t := "int") (.base (.int _)) kb_int_tuple k⟩
instance rd_isi_int_list : Rd (rIsi K [(.int i), .ty "list"] H Q) (Q (.bl false) H) := ⟨fun k => r_isi (t := "int") (.base (.int _)) kb_int_list k⟩
instance rd_isi_str_int : Rd (rIsi K [(.str z), .ty "int"] H Q) (Q (.bl false) H) := ⟨fun k => r_isi (t := "str") (.base (.str _)) kb_str_int k⟩
instance rd_isi_str_bool : Rd (rIsi K [(.str z), .ty "bool"] H Q) (Q (.bl false) H) := ⟨fun k => r_isi (t := "str") (.base (.str _)) kb_str_bool k⟩
instance rd_isi_str_str : Rd (rIsi K [(.str z), .ty "str"] H Q) (Q (.bl true) H) := ⟨fun k => r_isi (t := "str") (.base (.str _)) kb_str_str k⟩
instance rd_isi_str_tuple : Rd (rIsi K [(.str z), .ty "tuple"] H Q) (Q (.bl false) H) := ⟨fun k => r_isi (t := "str") (.base (.str _)) kb_str_tuple k⟩
instance rd_isi_str_list : Rd (rIsi K [(.str z), .ty "list"] H Q) (Q (.bl false) H) := ⟨fun k => r_isi (t := "str") (.base (.str _)) kb_str_list k⟩
theorem r_isi_tuple_int (h : SqT K H p xs) (k : Q (.bl false) H) : rIsi K [.ref p, .ty "int"] H Q := r_isi (t := "tuple") (ty_tup h) kb_tuple_int k
theorem r_isi_tuple_bool (h : SqT K H p xs) (k : Q (.bl false) H) : rIsi K [.ref p, .ty "bool"] H Q := r_isi (t := "tuple") (ty_tup h) kb_tuple_bool k
theorem r_isi_tuple_str (h : SqT K H p xs) (k : Q (.bl false) H) : rIsi K [.ref p, .ty "str"] H Q := r_isi (t := "tuple") (ty_tup h) kb_tuple_str k
theorem r_isi_tuple_tuple (h : SqT K H p xs) (k : Q (.bl true) H) : rIsi K [.ref p, .ty "tuple"] H Q := r_isi (t := "tuple") (ty_tup h) kb_tuple_tuple k
theorem r_isi_tuple_list (h : SqT K H p xs) (k : Q (.bl false) H) : rIsi K [.ref p, .ty "list"] H Q := r_isi (t := "tuple") (ty_tup h) kb_tuple_list k
theorem r_isi_list_int (h : SqL K H p xs) (k : Q (.bl false) H) : rIsi K [.ref p, .ty "int"] H Q := r_isi (t := "list") (ty_list h) kb_list_int k
theorem r_isi_list_bool (h : SqL K H p xs) (k : Q (.bl false) H) : rIsi K [.ref p, .ty "bool"] H Q := r_isi (t := "list") (ty_list h) kb_list_bool k
theorem r_isi_list_str (h : SqL K H p xs) (k : Q (.bl false) H) : rIsi K [.ref p, .ty "str"] H Q := r_isi (t := "list") (ty_list h) kb_list_str k
theorem r_isi_list_tuple (h : SqL K H p xs) (k : Q (.bl false) H) : rIsi K [.ref p, .ty "tuple"] H Q := r_isi (t := "list") (ty_list h) kb_list_tuple k
theorem r_isi_list_list (h : SqL K H p xs) (k : Q (.bl true) H) : rIsi K [.ref p, .ty "list"] H Q := r_isi (t := "list") (ty_list h) kb_list_list k
end
section
variable {α : Type} {x0 x1 x2 x3 x4 : α} {r : List α}
theorem at_z {xs : List α} (h : xs[0]? = some x0) : atI xs 0 = some x0 := atI_nat (j := 0) h
theorem at_0 : atI (x0 :: r) 0 = some x0 := atI_nat (j := 0) rfl
theorem at_1 : atI (x0 :: x1 :: r) 1 = some x1 := atI_nat (j := 1) rfl
theorem at_2 : atI (x0 :: x1 :: x2 :: r) 2 = some x2 := atI_nat (j := 2) rfl
theorem at_3 : atI (x0 :: x1 :: x2 :: x3 :: r) 3 = some x3 := atI_nat (j := 3) rfl
theorem at_4 : atI (x0 :: x1 :: x2 :: x3 :: x4 :: r) 4 = some x4 := atI_nat (j := 4) rfl
end
/-! ### rules in a heap -/
def bV : Option Int → V
  | none => .non
  | some b => .int b
def chS (k : Bool) : Str := if k then "kept" else "anew"
theorem chS_in (k : Bool) : inV (.str (chS k)) [.str "kept", .str "anew"] = true := by cases k <;> decide +kernel
theorem chS_kept (k : Bool) : decide (chS k = "kept") = k := by cases k <;> decide +kernel
theorem chS_anew (k : Bool) : decide (chS k = "anew") = !k := by cases k <;> decide +kernel
instance rd_bVn {b : Option Int} {H : Hp} {Q : VK} : Rd (rNotN (bV b) .non H Q) (Q (.bl b.isSome) H) := ⟨fun k => r_notN (by cases b <;> exact k)⟩
theorem bV_non (b : Option Int) : decide (bV b = .non) = b.isNone := by cases b <;> simp [bV]
structure RulAt (H : Hp) (ra : Addr) (R : Rul) (la : Addr) (ps : List Addr) : Prop where
  rules : H ra = some (.tup [.ref la, bV R.boost, .str (chS R.kept)])
  lines : H la = some (.tup (ps.map V.ref))
  len : ps.length = R.lines.length
  pair : ∀ i p, ps[i]? = some p → H p = some (.tup [.int (R.q i), .int (R.s i)])
section
variable {H H' : Hp} {ra la : Addr} {R : Rul} {ps : List Addr} {W : Addr → Prop}
theorem RulAt.frame (h : RulAt H ra R la ps) (k : Frame W H H') : RulAt H' ra R la ps := ⟨k.2 _ _ h.rules, k.2 _ _ h.lines, h.len, fun i p e => k.2 _ _ (h.pair i p e)⟩
theorem RulAt.same (h : RulAt H ra R la ps) (k : Same H H') : RulAt H' ra R la ps := ⟨k _ _ h.rules, k _ _ h.lines, h.len, fun i p e => k _ _ (h.pair i p e)⟩
theorem RulAt.line (h : RulAt H ra R la ps) {l : Nat} (hl : l < R.lines.length) : ∃ p, (ps.map V.ref)[l]? = some (.ref p) ∧ H p = some (.tup [.int (R.q l), .int (R.s l)]) := by
  have hl' : l < ps.length := by rw [h.len]; exact hl
  refine ⟨ps[l], by rw [List.getElem?_map, List.getElem?_eq_getElem hl']; rfl, h.pair l _ (List.getElem?_eq_getElem hl')⟩
end
end Qn

/-! Q3: data at any depth: shapes, comparisons with nothing, whole numbers in lists. -/
namespace Qn
open PySem L2
/-- data of a depth -/
def Sh (n : Nat) (d : PyData) : Prop := d.canLay0 = true ∧ d.depth ≤ n
theorem Sh.ok {n : Nat} {d : PyData} (h : Sh n d) (hn : n ≤ 64) : SeqAt.shaped d = true := by
  unfold SeqAt.shaped
  rw [h.1, Bool.true_and]
  exact decide_eq_true (Nat.le_trans h.2 hn)
theorem Sh.mono {n m : Nat} {d : PyData} (h : Sh n d) (hn : n ≤ m) : Sh m d := ⟨h.1, Nat.le_trans h.2 hn⟩
theorem sh_int {n : Nat} {i : Int} : Sh n (.int i) := ⟨by simp [PyData.canLay0], by simp [PyData.depth]⟩
theorem sh_bool {n : Nat} {b : Bool} : Sh n (.bool b) := ⟨by simp [PyData.canLay0], by simp [PyData.depth]⟩
theorem sh_none {n : Nat} : Sh n .none := ⟨by simp [PyData.canLay0], by simp [PyData.depth]⟩
theorem shAll {n : Nat} : ∀ {ds : List PyData}, (∀ d ∈ ds, Sh n d) → PyData.canLayAll0 ds = true ∧ PyData.depthAll ds ≤ n
  | [], _ => ⟨by simp [PyData.canLayAll0], by simp [PyData.depthAll]⟩
  | d :: r, h => by
    obtain ⟨h1, h2⟩ := h d List.mem_cons_self
    obtain ⟨h3, h4⟩ := shAll (ds := r) fun x hx => h x (List.mem_cons_of_mem _ hx)
    refine ⟨by rw [PyData.canLayAll0, h1, h3]; rfl, ?_⟩
    rw [PyData.depthAll]
    exact Nat.max_le.mpr ⟨h2, h4⟩
theorem sh_tup {n : Nat} {ds : List PyData} (h : ∀ d ∈ ds, Sh n d) : Sh (n + 1) (.tuple ds) := by
  obtain ⟨h1, h2⟩ := shAll h
  exact ⟨by simp [PyData.canLay0, h1], by simp only [PyData.depth]; omega⟩
theorem sh_lst {n : Nat} {ds : List PyData} (h : ∀ d ∈ ds, Sh n d) : Sh (n + 1) (.list ds) := by
  obtain ⟨h1, h2⟩ := shAll h
  exact ⟨by simp [PyData.canLay0, h1], by simp only [PyData.depth]; omega⟩
theorem sh_nil {n : Nat} : ∀ d ∈ ([] : List PyData), Sh n d := fun d h => by cases h
theorem sh_cons {n : Nat} {x : PyData} {r : List PyData} (h1 : Sh n x) (h2 : ∀ d ∈ r, Sh n d) : ∀ d ∈ x :: r, Sh n d := fun d h => by
  rcases List.mem_cons.mp h with z | z
  · rw [z]; exact h1
  · exact h2 d z
theorem sh_map {α : Type} {n : Nat} {f : α → PyData} {xs : List α} (h : ∀ x, Sh n (f x)) : ∀ d ∈ xs.map f, Sh n d := fun d hd => by
  obtain ⟨x, _, e⟩ := List.mem_map.mp hd
  rw [← e]; exact h x
theorem sh_ints {xs : List Int} : Sh 1 (.list (xs.map .int)) := sh_lst (sh_map fun _ => sh_int)
theorem eqvAll_nil (ds : List PyData) : PyData.eqvAll ds [] = ds.isEmpty := by
  cases ds with
  | nil => simp [PyData.eqvAll]
  | cons d r => simp [PyData.eqvAll]
section
variable {K : PySem.W.Frag} {H : Hp} {Q : VK} {x y : V} {a p : Addr} {ds es : List PyData} {n : Nat} {ns : List Int}
theorem dpAll_map {α : Type} {f : α → V} {g : α → PyData} {xs : List α} (h : ∀ x ∈ xs, Dp K H (f x) (g x)) : DpAll K H (xs.map f) (xs.map g) := by
  induction xs with
  | nil => exact .nil
  | cons x r ih => exact .cons (h x List.mem_cons_self) (ih fun y hy => h y (List.mem_cons_of_mem _ hy))
theorem dp_ints (h : SqL K H a (ns.map V.int)) : Dp K H (.ref a) (.list (ns.map .int)) := .lst h (dpAll_map fun i _ => .int i)
theorem dp_nilL (h : SqL K H a []) : Dp K H (.ref a) (.list []) := .lst h .nil
theorem dp_nilT (h : SqT K H a []) : Dp K H (.ref a) (.tuple []) := .tup h .nil
theorem r_eqE_tup (h : Dp K H x (.tuple ds)) (s : Sh 60 (.tuple ds)) (hp : SqT K H p []) (k : Q (.bl ds.isEmpty) H) : rEqD K x (.ref p) H Q :=
  r_eqD h (dp_nilT hp) (s.ok (by decide)) ((sh_tup (n := 0) sh_nil).ok (by decide)) (by
    have e : PyData.eqv (.tuple ds) (.tuple []) = ds.isEmpty := by rw [PyData.eqv]; exact eqvAll_nil ds
    rw [e]; exact k)
theorem r_eqE_lst (h : Dp K H x (.list ds)) (s : Sh 60 (.list ds)) (hp : SqL K H p []) (k : Q (.bl ds.isEmpty) H) : rEqD K x (.ref p) H Q :=
  r_eqD h (dp_nilL hp) (s.ok (by decide)) ((sh_lst (n := 0) sh_nil).ok (by decide)) (by
    have e : PyData.eqv (.list ds) (.list []) = ds.isEmpty := by rw [PyData.eqv]; exact eqvAll_nil ds
    rw [e]; exact k)
theorem r_neE_lst (h : Dp K H x (.list ds)) (s : Sh 60 (.list ds)) (hp : SqL K H p []) (k : Q (.bl (!ds.isEmpty)) H) : rNeD K x (.ref p) H Q :=
  r_neD h (dp_nilL hp) (s.ok (by decide)) ((sh_lst (n := 0) sh_nil).ok (by decide)) (by
    have e : PyData.eqv (.list ds) (.list []) = ds.isEmpty := by rw [PyData.eqv]; exact eqvAll_nil ds
    rw [e]; exact k)
/-- a list of whole numbers against [] -/
theorem r_neE_ints (h : SqL K H a (ns.map V.int)) (hp : SqL K H p []) (k : Q (.bl (!ns.isEmpty)) H) : rNeD K (.ref a) (.ref p) H Q :=
  r_neE_lst (dp_ints h) (sh_ints.mono (by decide)) hp (by rw [List.isEmpty_map]; exact k)
theorem r_eqE_ints (h : SqL K H a (ns.map V.int)) (hp : SqL K H p []) (k : Q (.bl ns.isEmpty) H) : rEqD K (.ref a) (.ref p) H Q :=
  r_eqE_lst (dp_ints h) (sh_ints.mono (by decide)) hp (by rw [List.isEmpty_map]; exact k)
/-! the rules' lines as data -/
theorem RulAt.dp {ra la : Addr} {R : Rul} {ps : List Addr} (h : RulAt H ra R la ps) : ∃ ds, Dp K H (.ref la) (.tuple ds) ∧ Sh 60 (.tuple ds) ∧ ds.length = R.lines.length := by
  refine ⟨(List.range ps.length).map fun i => .tuple [.int (R.q i), .int (R.s i)], .tup (SqT.of h.lines) ?_, (sh_tup (n := 1) (sh_map fun i => sh_tup (n := 0) (sh_cons sh_int (sh_cons sh_int sh_nil)))).mono (by decide), by rw [List.length_map, List.length_range, h.len]⟩
  have e : ps.map V.ref = (List.range ps.length).map fun i => V.ref (ps.getD i 0) := by
    apply List.ext_getElem
    · simp
    · intro i h1 h2
      have h1' : i < ps.length := by simpa using h1
      simp [List.getD, h1']
  rw [e]
  refine dpAll_map fun i hi => ?_
  have hi' : i < ps.length := List.mem_range.mp hi
  have e2 : ps[i]? = some (ps.getD i 0) := by simp [List.getD, hi']
  exact .tup (SqT.of (h.pair i _ e2)) (.cons (.int _) (.cons (.int _) .nil))
end
end Qn

/-! Q4: lines in order: each ready task in its line's row once; but for those of ts, which stand in none. -/
namespace Qn
open PySem L2
structure Wf (n : Nat) (ts : List Int) (S : LSt) : Prop where
  rl : S.rows.length = n
  key : ∀ t c, look S.cards t = some c → 0 ≤ t ∧ t ≤ 19 ∧ c.line < n ∧ c.sp.length = n
  nd : (S.cards.map Prod.fst).Nodup
  mem : ∀ l t, t ∈ S.row l ↔ t ∉ ts ∧ ∃ c, look S.cards t = some c ∧ c.rdy = true ∧ c.line = l
  rnd : ∀ l, (S.row l).Nodup
theorem nodup_len : ∀ {xs ys : List Int}, xs.Nodup → (∀ x ∈ xs, x ∈ ys) → xs.length ≤ ys.length
  | [], _, _, _ => Nat.zero_le _
  | x :: r, ys, h, k => by
    have hx := k x List.mem_cons_self
    have h' := List.nodup_cons.mp h
    have := nodup_len (xs := r) (ys := ys.erase x) h'.2 fun y hy => by
      have ne : y ≠ x := fun z => h'.1 (z ▸ hy)
      exact (List.mem_erase_of_ne ne).mpr (k y (List.mem_cons_of_mem _ hy))
    rw [List.length_erase_of_mem hx] at this
    have := List.length_pos_of_mem hx
    show r.length + 1 ≤ _
    omega
def all20 : List Int := (List.range 20).map Int.ofNat
theorem mem_all20 {t : Int} (h : 0 ≤ t ∧ t ≤ 19) : t ∈ all20 := List.mem_map.mpr ⟨t.toNat, List.mem_range.mpr (by omega), by show ((t.toNat : Nat) : Int) = t; omega⟩
theorem few {xs : List Int} (h : xs.Nodup) (k : ∀ x ∈ xs, 0 ≤ x ∧ x ≤ 19) : xs.length ≤ 20 := nodup_len (ys := all20) h fun x hx => mem_all20 (k x hx)
theorem look_cons {p : Int × Card} {r : List (Int × Card)} {t : Int} : look (p :: r) t = if p.1 = t then some p.2 else look r t := rfl
theorem look_key {cs : List (Int × Card)} {t : Int} : (∃ c, look cs t = some c) ↔ t ∈ cs.map Prod.fst := by
  induction cs with
  | nil => simp [look]
  | cons p r ih =>
    rw [List.map_cons, List.mem_cons, ← ih, look_cons]
    by_cases e : p.1 = t
    · rw [if_pos e]
      exact ⟨fun _ => .inl e.symm, fun _ => ⟨_, rfl⟩⟩
    · rw [if_neg e]
      exact ⟨.inr, fun h => h.resolve_left fun z => e z.symm⟩
theorem keys_up {cs : List (Int × Card)} {t : Int} {f : Card → Card} : (cs.map fun p => if p.1 = t then (p.1, f p.2) else p).map Prod.fst = cs.map Prod.fst := by
  rw [List.map_map]
  apply List.map_congr_left
  intro p _
  by_cases e : p.1 = t <;> simp [e]
namespace LSt
variable {S : LSt} {t u : Int} {f g : Card → Card} {l m : Nat} {h : List Int → List Int}
theorem upC_upC : (S.upC t f).upC t g = S.upC t fun c => g (f c) := by
  unfold upC
  simp only [List.map_map]
  congr 1
  apply List.map_congr_left
  intro p _
  by_cases e : p.1 = t <;> simp [e]
theorem upC_id {c : Card} (hc : look S.cards t = some c) (nd : (S.cards.map Prod.fst).Nodup) (hf : f c = c) : S.upC t f = S := by
  have aux : ∀ cs : List (Int × Card), (cs.map Prod.fst).Nodup → (∀ c, look cs t = some c → f c = c) → (cs.map fun p => if p.1 = t then (p.1, f p.2) else p) = cs := by
    intro cs
    induction cs with
    | nil => intro _ _; rfl
    | cons p r ih =>
      intro nd h
      rw [List.map_cons] at nd
      have nd' := List.nodup_cons.mp nd
      rw [List.map_cons]
      by_cases e : p.1 = t
      · rw [if_pos e, h p.2 (by unfold look; rw [if_pos e])]
        congr 1
        rw [ih nd'.2 fun c hc => absurd (look_key.mp ⟨c, hc⟩) (e ▸ nd'.1)]
      · rw [if_neg e, ih nd'.2 fun c hc => h c (by unfold look; rw [if_neg e]; exact hc)]
  unfold upC
  rw [aux S.cards nd fun c' h' => by rw [hc] at h'; rw [← Option.some.inj h']; exact hf]
/-- what is done to a card is told by what it does to the card that is there -/
theorem upC_eq {c : Card} (hc : look S.cards t = some c) (nd : (S.cards.map Prod.fst).Nodup) (hf : f c = g c) : S.upC t f = S.upC t g := by
  have aux : ∀ cs : List (Int × Card), (cs.map Prod.fst).Nodup → (∀ c, look cs t = some c → f c = g c) → (cs.map fun p => if p.1 = t then (p.1, f p.2) else p) = cs.map fun p => if p.1 = t then (p.1, g p.2) else p := by
    intro cs
    induction cs with
    | nil => intro _ _; rfl
    | cons p r ih =>
      intro nd h
      rw [List.map_cons] at nd
      have nd' := List.nodup_cons.mp nd
      rw [List.map_cons, List.map_cons]
      by_cases e : p.1 = t
      · rw [if_pos e, if_pos e, h p.2 (by unfold look; rw [if_pos e])]
        congr 1
        exact ih nd'.2 fun c hc => absurd (look_key.mp ⟨c, hc⟩) (e ▸ nd'.1)
      · rw [if_neg e, if_neg e]
        congr 1
        exact ih nd'.2 fun c hc => h c (by unfold look; rw [if_neg e]; exact hc)
  unfold upC
  rw [aux S.cards nd fun c' h' => by rw [hc] at h'; rw [← Option.some.inj h']; exact hf]
theorem row_upR : (S.upR l h).row m = if l = m ∧ l < S.rows.length then h (S.row m) else S.row m := by
  unfold row upR
  simp only [List.getD_eq_getElem?_getD, List.getElem?_modify]
  by_cases e : l = m
  · subst e
    by_cases q : l < S.rows.length
    · rw [if_pos ⟨rfl, q⟩, List.getElem?_eq_getElem q]; simp
    · rw [if_neg fun z => q z.2, List.getElem?_eq_none (by omega)]; rfl
  · rw [if_neg fun z => e z.1]
    cases S.rows[m]? <;> simp [e]
theorem row_some {xs : List Int} (e : S.rows[l]? = some xs) : S.row l = xs := by unfold row; rw [List.getD_eq_getElem?_getD, e]; rfl
theorem row_at (q : l < S.rows.length) : S.rows[l]? = some (S.row l) := by unfold row; rw [List.getD_eq_getElem?_getD, List.getElem?_eq_getElem q]; rfl
theorem rows_upR : (S.upR l h).rows.length = S.rows.length := List.length_modify ..
theorem card_of {c : Card} (e : look S.cards t = some c) : S.card t = c := by unfold card; rw [e]; rfl
end LSt
section
variable {n : Nat} {ts : List Int} {S : LSt} {t : Int} {c : Card} {f : Card → Card} {l : Nat}
theorem Wf.short (w : Wf n ts S) (l : Nat) : (S.row l).length ≤ 20 := few (w.rnd l) fun x hx => by
  obtain ⟨_, c, hc, _⟩ := (w.mem l x).mp hx
  exact ⟨(w.key x c hc).1, (w.key x c hc).2.1⟩
theorem Wf.cards20 (w : Wf n ts S) : S.cards.length ≤ 20 := by
  have := few w.nd fun x hx => by
    obtain ⟨c, hc⟩ := look_key.mpr hx
    exact ⟨(w.key x c hc).1, (w.key x c hc).2.1⟩
  rwa [List.length_map] at this
theorem Wf.upC (w : Wf n ts S) (h : ∀ c, (f c).line = c.line ∧ (f c).rdy = c.rdy ∧ (f c).sp.length = c.sp.length) : Wf n ts (S.upC t f) := by
  have lk : ∀ u c, look (S.upC t f).cards u = some c → ∃ c', look S.cards u = some c' ∧ c.line = c'.line ∧ c.rdy = c'.rdy ∧ c.sp.length = c'.sp.length := fun u c e => by
    rw [look_upC] at e
    by_cases q : u = t
    · rw [if_pos q] at e
      cases z : look S.cards u with
      | none => rw [z] at e; cases e
      | some c' =>
        rw [z] at e
        obtain ⟨a, b, d⟩ := h c'
        have e' := Option.some.inj e
        exact ⟨c', rfl, by rw [← e', a], by rw [← e', b], by rw [← e', d]⟩
    · rw [if_neg q] at e
      exact ⟨c, e, rfl, rfl, rfl⟩
  refine ⟨w.rl, fun u c e => ?_, by show (List.map _ _).Nodup; rw [show (S.upC t f).cards.map Prod.fst = S.cards.map Prod.fst from keys_up]; exact w.nd, fun l u => ?_, w.rnd⟩
  · obtain ⟨c', e', a, b, d⟩ := lk u c e
    rw [a, d]
    exact w.key u c' e'
  · refine (w.mem l u).trans ⟨fun ⟨a, c, e, r, q⟩ => ⟨a, ?_⟩, fun ⟨a, c, e, r, q⟩ => ⟨a, ?_⟩⟩
    · by_cases z : u = t
      · obtain ⟨a1, b1, d1⟩ := h c
        exact ⟨f c, by rw [look_upC, if_pos z, e]; rfl, by rw [b1, r], by rw [a1, q]⟩
      · exact ⟨c, by rw [look_upC, if_neg z, e], r, q⟩
    · obtain ⟨c', e', a1, b1, d1⟩ := lk u c e
      exact ⟨c', e', by rw [← b1, r], by rw [← a1, q]⟩
/-- a task in no row may be changed at will -/
theorem Wf.upOff (w : Wf n (t :: ts) S) (h : ∀ c, look S.cards t = some c → (f c).line < n ∧ (f c).sp.length = n) : Wf n (t :: ts) (S.upC t f) := by
  refine ⟨w.rl, fun u c e => ?_, by show (List.map _ _).Nodup; rw [show (S.upC t f).cards.map Prod.fst = S.cards.map Prod.fst from keys_up]; exact w.nd, fun l u => ?_, w.rnd⟩
  · rw [look_upC] at e
    by_cases q : u = t
    · rw [if_pos q] at e
      cases z : look S.cards u with
      | none => rw [z] at e; cases e
      | some c' =>
        rw [z] at e
        rw [← Option.some.inj e]
        have k := w.key u c' z
        exact ⟨k.1, k.2.1, h c' (q ▸ z)⟩
    · rw [if_neg q] at e
      exact w.key u c e
  · refine (w.mem l u).trans ?_
    by_cases z : u = t
    · subst z
      simp
    · rw [look_upC, if_neg z]
theorem Wf.lay {R : Rul} (w : Wf n (t :: ts) S) (e : look S.cards t = some c) (r : c.rdy = true) (hl : l < n) (nt : t ∉ ts) : Wf n ts (S.lay R t l) := by
  have w' := w.upOff (f := fun c => { c with line := l, q := R.q l }) fun c e => ⟨hl, (w.key t c e).2.2.2⟩
  have no : ∀ l, t ∉ S.row l := fun l h => ((w.mem l t).mp h).1 List.mem_cons_self
  have hl' : l < S.rows.length := by rw [w.rl]; exact hl
  refine ⟨LSt.rows_upR.trans w.rl, w'.key, w'.nd, fun m u => ?_, fun m => ?_⟩
  · show u ∈ ((S.upC t _).upR l _).row m ↔ _
    rw [LSt.row_upR]
    show u ∈ (if l = m ∧ l < S.rows.length then S.row m ++ [t] else S.row m) ↔ _
    have lk : look (S.lay R t l).cards u = if u = t then (look S.cards u).map (fun c => { c with line := l, q := R.q l }) else look S.cards u := look_upC (f := fun c => { c with line := l, q := R.q l })
    rw [lk]
    by_cases z : u = t
    · subst z
      rw [if_pos rfl, e]
      by_cases q : l = m
      · rw [if_pos ⟨q, hl'⟩]
        simp [nt, r, q]
      · rw [if_neg fun z => q z.1]
        simp [no m, q]
    · rw [if_neg z]
      have : u ∈ (if l = m ∧ l < S.rows.length then S.row m ++ [t] else S.row m) ↔ u ∈ S.row m := by
        by_cases q : l = m ∧ l < S.rows.length
        · rw [if_pos q]; simp [z]
        · rw [if_neg q]
      rw [this, w.mem m u]
      simp [z]
  · show (((S.upC t _).upR l _).row m).Nodup
    rw [LSt.row_upR]
    show (if l = m ∧ l < S.rows.length then S.row m ++ [t] else S.row m).Nodup
    by_cases q : l = m ∧ l < S.rows.length
    · rw [if_pos q]
      refine List.nodup_append.mpr ⟨w.rnd m, by simp, fun a ha b hb => ?_⟩
      rw [List.mem_singleton] at hb
      exact fun z => no m (by rw [← hb, ← z]; exact ha)
    · rw [if_neg q]; exact w.rnd m
theorem Wf.off (w : Wf n ts S) (e : look S.cards t = some c) : Wf n (t :: ts) (S.upR c.line (·.erase t)) := by
  refine ⟨LSt.rows_upR.trans w.rl, w.key, w.nd, fun m u => ?_, fun m => ?_⟩
  · rw [LSt.row_upR]
    have hl : c.line < S.rows.length := by rw [w.rl]; exact (w.key t c e).2.2.1
    show _ ↔ u ∉ t :: ts ∧ ∃ c, look S.cards u = some c ∧ _
    by_cases q : c.line = m
    · rw [if_pos ⟨q, hl⟩, (w.rnd m).mem_erase_iff, w.mem m u]
      simp [and_assoc]
    · rw [if_neg fun z => q z.1, w.mem m u]
      constructor
      · rintro ⟨a, c', e', r, z⟩
        refine ⟨?_, c', e', r, z⟩
        intro h
        rcases List.mem_cons.mp h with h | h
        · subst h; rw [e] at e'; exact q (by rw [Option.some.inj e']; exact z)
        · exact a h
      · rintro ⟨a, x⟩
        exact ⟨fun h => a (List.mem_cons_of_mem _ h), x⟩
  · rw [LSt.row_upR]
    by_cases q : c.line = m ∧ c.line < S.rows.length
    · rw [if_pos q]; exact (w.rnd m).erase t
    · rw [if_neg q]; exact w.rnd m
/-- who stands in no row and isn't ready is in order -/
theorem Wf.idle (w : Wf n (t :: ts) S) (nt : t ∉ ts) (e : ∀ c, look S.cards t = some c → c.rdy = false) : Wf n ts S := by
  refine ⟨w.rl, w.key, w.nd, fun m u => ?_, w.rnd⟩
  rw [w.mem m u]
  constructor
  · rintro ⟨a, x⟩
    exact ⟨fun h => a (List.mem_cons_of_mem _ h), x⟩
  · rintro ⟨a, c, e', r, z⟩
    refine ⟨fun h => ?_, c, e', r, z⟩
    rcases List.mem_cons.mp h with h | h
    · subst h; rw [e c e'] at r; cases r
    · exact a h
theorem Wf.busy (w : Wf n ts S) (e : ∀ c, look S.cards t = some c → c.rdy = false) : Wf n (t :: ts) S := by
  refine ⟨w.rl, w.key, w.nd, fun m u => ?_, w.rnd⟩
  rw [w.mem m u]
  constructor
  · rintro ⟨a, c, e', r, z⟩
    refine ⟨fun h => ?_, c, e', r, z⟩
    rcases List.mem_cons.mp h with h | h
    · subst h; rw [e c e'] at r; cases r
    · exact a h
  · rintro ⟨a, x⟩
    exact ⟨fun h => a (List.mem_cons_of_mem _ h), x⟩
theorem Wf.wait (w : Wf n [] S) (e : look S.cards t = some c) : Wf n [] (S.wait t) := by
  have w1 := (w.off e).upOff (f := fun c => { c with rdy := false }) fun c e => ⟨(w.key t c e).2.2.1, (w.key t c e).2.2.2⟩
  have w2 := w1.idle (by simp) fun c h => by
    rw [look_upC, if_pos rfl] at h
    have e' : look (S.upR c.line (·.erase t)).cards t = look S.cards t := rfl
    cases z : look S.cards t with
    | none => rw [e] at z; cases z
    | some d =>
      have h' : (look S.cards t).map (fun c => ({ c with rdy := false } : Card)) = some c := h
      rw [z] at h'
      rw [← Option.some.inj h']
  unfold LSt.wait
  rw [LSt.card_of e]
  exact w2
theorem Wf.wake {R : Rul} (w : Wf n [] S) (e : look S.cards t = some c) (r : c.rdy = false) : Wf n [] (S.wake R t) := by
  have w1 := (w.busy (t := t) fun d h => by rw [e] at h; rw [← Option.some.inj h]; exact r).upOff (f := fun c => { c with rdy := true, sh := if R.kept then c.sh else R.s c.line }) fun c e => ⟨(w.key t c e).2.2.1, (w.key t c e).2.2.2⟩
  unfold LSt.wake
  rw [LSt.card_of e]
  exact w1.lay (c := { c with rdy := true, sh := if R.kept then c.sh else R.s c.line }) (by rw [look_upC, if_pos rfl, e]; rfl) rfl (w.key t c e).2.2.1 (by simp)
theorem Wf.dropOff (w : Wf n (t :: ts) S) (nt : t ∉ ts) : Wf n ts (S.drop t) := by
  have lk : ∀ u c, look (S.drop t).cards u = some c → look S.cards u = some c ∧ u ≠ t := fun u c e => by
    have e' : (if u = t then none else look S.cards u) = some c := by rw [← look_drop]; exact e
    by_cases q : u = t
    · rw [if_pos q] at e'; cases e'
    · rw [if_neg q] at e'; exact ⟨e', q⟩
  have w1 : Wf n (t :: ts) (S.drop t) := by
    refine ⟨w.rl, fun u c e => w.key u c (lk u c e).1, ?_, fun m u => ?_, w.rnd⟩
    · show ((S.cards.filter _).map Prod.fst).Nodup
      exact List.Pairwise.sublist (List.Sublist.map _ List.filter_sublist) w.nd
    · refine (w.mem m u).trans ⟨fun ⟨a, c, e, r, z⟩ => ⟨a, c, ?_, r, z⟩, fun ⟨a, c, e, r, z⟩ => ⟨a, c, (lk u c e).1, r, z⟩⟩
      show look (S.cards.filter fun p => decide (p.1 ≠ t)) u = _
      rw [look_drop, if_neg fun h => a (by rw [h]; exact List.mem_cons_self), e]
  exact w1.idle nt fun c e => absurd rfl (lk t c e).2
theorem Wf.go (w : Wf n [] S) (e : look S.cards t = some c) : Wf n [] (S.go t) := by
  unfold LSt.go
  rw [LSt.card_of e]
  by_cases r : c.rdy = true
  · rw [if_pos r]
    have := (w.off e).dropOff (by simp)
    exact this
  · rw [if_neg r]
    exact (w.busy (t := t) fun d h => by rw [e] at h; rw [← Option.some.inj h]; simpa using r).dropOff (by simp)
theorem Wf.add (w : Wf n ts S) (e : look S.cards t = none) (ht : 0 ≤ t ∧ t ≤ 19) (hl : c.line < n) (hs : c.sp.length = n) : Wf n (t :: ts) { S with cards := S.cards ++ [(t, c)] } := by
  refine ⟨w.rl, fun u d h => ?_, ?_, fun m u => ?_, w.rnd⟩
  · have h' : look (S.cards ++ [(t, c)]) u = some d := h
    rw [look_snoc e] at h'
    by_cases q : u = t
    · rw [if_pos q] at h'
      rw [← Option.some.inj h', q]
      exact ⟨ht.1, ht.2, hl, hs⟩
    · rw [if_neg q] at h'
      exact w.key u d h'
  · show ((S.cards ++ [(t, c)]).map Prod.fst).Nodup
    rw [List.map_append]
    refine List.nodup_append.mpr ⟨w.nd, by simp, fun a ha b hb => ?_⟩
    have hb' : b = t := by simpa using hb
    intro z
    obtain ⟨d, hd⟩ := look_key.mpr ha
    rw [z, hb', e] at hd; cases hd
  · show u ∈ S.row m ↔ _
    rw [w.mem m u]
    show _ ↔ u ∉ t :: ts ∧ ∃ d, look (S.cards ++ [(t, c)]) u = some d ∧ _
    rw [look_snoc e]
    by_cases q : u = t
    · subst q
      rw [e]
      simp
    · rw [if_neg q]
      simp [q]
theorem Wf.come {R : Rul} (w : Wf n [] S) (e : look S.cards t = none) (ht : 0 ≤ t ∧ t ≤ 19) (hn : 0 < n) : Wf n [] (S.come R t) := by
  have w1 := w.add (c := LSt.fresh R S.rows.length) e ht hn (by unfold LSt.fresh; simp [w.rl])
  exact w1.lay (c := LSt.fresh R S.rows.length) (by show look (S.cards ++ [(t, _)]) t = _; rw [look_snoc e, if_pos rfl]) rfl hn (by simp)
end
end Qn

/-! Q5: lines in a heap, since a heap; the stores by name; a list built in a loop. -/
namespace Qn
open PySem L2
theorem Same.late {H H' : Hp} {D : Addr} {o : HO} (s : Same H H') (n : H D = none) : Same H (L2.upd H' D o) := fun b v e => upd_oth (s b v e) fun z => by rw [z, n] at e; cases e
theorem Step.mono2 {W W' V' : Addr → Prop} {H H' : Hp} (a : Step W H W' H') (h : ∀ b, V' b → W' b) : Step W H V' H' := ⟨a.1, fun b z => a.2 b (h b z)⟩
theorem Step.apart {W W' U : Addr → Prop} {H H' : Hp} (st : Step W H W' H') (d : ∀ b, W b → ¬ U b) (own : ∀ b, U b → H b ≠ none) : ∀ b, W' b → ¬ U b := fun b h u => by
  rcases st.2 b h with z | z
  · exact d b z u
  · exact own b u z
structure LS (kd : Kd) (U0 : Addr → Prop) (H0 : Hp) (g : Geo) (S : LSt) (H : Hp) : Prop where
  lr : LR kd g S H
  st : Step U0 H0 (Foot g S) H
section
variable {kd : Kd} {U0 U1 : Addr → Prop} {H0 H H' : Hp} {g g' : Geo} {S S' : LSt} {t : Int} {c : Card} {l : Nat}
theorem LR.start (h : LR kd g S H) : LS kd (Foot g S) H g S H := ⟨h, .refl⟩
theorem LS.trans (h : LS kd U0 H0 g S H) (k : LS kd (Foot g S) H g' S' H') : LS kd U0 H0 g' S' H' := ⟨k.lr, h.st.trans k.st⟩
theorem LS.put {p : Addr} {o : HO} (h : LS kd U0 H0 g S H) (w : Foot g S p) (k : LR kd g S' (upd H p o)) (sub : ∀ i, live S' i → live S i) : LS kd U0 H0 g S' (upd H p o) := by
  obtain ⟨u, hu, nt⟩ := h.lr.owned w
  refine ⟨k, h.st.trans ⟨Frame.put w hu nt, fun b hb => .inl ?_⟩⟩
  obtain ⟨i, hi, rfl⟩ := hb
  exact ⟨i, sub i hi, rfl⟩
theorem LS.new {p : Addr} {o : HO} (h : LS kd U0 H0 g S H) (n : H p = none) : LS kd U0 H0 g S (upd H p o) := ⟨h.lr.same (Same.upd n), h.st.trans (.new n)⟩
theorem LS.same (h : LS kd U0 H0 g S H) (k : Same H H') : LS kd U0 H0 g S H' := ⟨h.lr.same k, h.st.trans (.of_same k)⟩
theorem LS.fresh {p : Addr} (h : LS kd U0 H0 g S H) (n : H p = none) : ¬ Foot g S p := fun w => by
  obtain ⟨u, hu, _⟩ := h.lr.owned w
  rw [n] at hu; cases hu
theorem live_upC {f : Card → Card} {i : LC} (h : live (S.upC t f) i) : live S i := by
  cases i with
  | self => trivial
  | cards => trivial
  | rws => trivial
  | row i => exact h
  | card u =>
    have h' : look (S.upC t f).cards u ≠ none := h
    rw [look_upC] at h'
    show look S.cards u ≠ none
    intro z; rw [z] at h'; simp at h'
  | spt u =>
    have h' : look (S.upC t f).cards u ≠ none := h
    rw [look_upC] at h'
    show look S.cards u ≠ none
    intro z; rw [z] at h'; simp at h'
theorem live_upR {f : List Int → List Int} {i : LC} (h : live (S.upR l f) i) : live S i := by
  cases i with
  | row i => have h' : i < (S.upR l f).rows.length := h; rw [LSt.rows_upR] at h'; exact h'
  | _ => exact h
theorem LS.setC {f : Card → Card} (h : LS kd U0 H0 g S H) (e : look S.cards t = some c) (hf : (f c).sp = c.sp) :
    LS kd U0 H0 g (S.upC t f) (upd H (g.adr (.card t)) (kd.card g t (f c) (g.adr (.spt t)))) :=
  h.put ⟨.card t, by show look S.cards t ≠ none; rw [e]; simp, rfl⟩ (h.lr.setC e hf) fun _ => live_upC
theorem LS.setSp {f : List Int → List Int} (h : LS kd U0 H0 g S H) (e : look S.cards t = some c) :
    LS kd U0 H0 g (S.upC t fun c => { c with sp := f c.sp }) (upd H (g.adr (.spt t)) (.lst ((f c.sp).map V.int))) :=
  h.put ⟨.spt t, by show look S.cards t ≠ none; rw [e]; simp, rfl⟩ (h.lr.setSp e) fun _ => live_upC
theorem LS.setR {xs : List Int} {f : List Int → List Int} (h : LS kd U0 H0 g S H) (e : S.rows[l]? = some xs) :
    LS kd U0 H0 g (S.upR l f) (upd H (g.adr (.row l)) (.lst ((f xs).map V.int))) :=
  h.put ⟨.row l, (List.getElem?_eq_some_iff.mp e).1, rfl⟩ (h.lr.setR e) fun _ => live_upR
theorem LS.setT {z : Int} (h : LS kd U0 H0 g S H) : LS kd U0 H0 g { S with time := z } (upd H (g.adr .self) (kd.self g z)) :=
  h.put ⟨.self, trivial, rfl⟩ h.lr.setT fun i hi => by cases i <;> exact hi
theorem live_drop {i : LC} (h : live (S.drop t) i) : live S i := by
  have aux : ∀ u, look (S.drop t).cards u ≠ none → look S.cards u ≠ none := fun u h' z => by
    apply h'
    show look (S.cards.filter fun p => decide (p.1 ≠ t)) u = none
    rw [look_drop, z]; simp
  cases i with
  | card u => exact aux u h
  | spt u => exact aux u h
  | self => trivial
  | cards => trivial
  | rws => trivial
  | row i => exact h
theorem LS.drop (h : LS kd U0 H0 g S H) : LS kd U0 H0 g (S.drop t) (upd H (g.adr .cards) (.dK (refs (fun t => g.adr (.card t)) (S.drop t).cards))) :=
  h.put ⟨.cards, trivial, rfl⟩ h.lr.drop fun _ => live_drop
theorem card_get (e : look S.cards t = some c) : valV (refs (fun t => g.adr (.card t)) S.cards) (Sum.inl t) = some (V.ref (g.adr (.card t))) := by rw [valV_refs, e]; rfl
theorem card_no (e : look S.cards t = none) : valV (refs (fun t => g.adr (.card t)) S.cards) (Sum.inl t) = none := by rw [valV_refs, e]; rfl
theorem row_get (h : l < S.rows.length) : atI ((List.range S.rows.length).map fun i => V.ref (g.adr (.row i))) (l : Nat) = some (V.ref (g.adr (.row l))) := by
  apply atI_nat
  rw [List.getElem?_map, List.getElem?_range h]; rfl
end
/-! ### the stores of the program's own lines -/
section
variable {K : PySem.W.Frag} {CL CC : Addr} {U0 : Addr → Prop} {H0 H : Hp} {g : Geo} {S : LSt} {t : Int} {c : Card} {l : Nat} {R : Hp → Prop} {Q : VK}
theorem LR.sf (h : LR (LKd CL CC) g S H) : H (g.adr .self) = some (.ins CL g.dx (LF g S.time)) := h.hself
theorem LR.cd (h : LR (LKd CL CC) g S H) (e : look S.cards t = some c) : H (g.adr (.card t)) = some (.ins CC (g.cdx t) (CF c (g.adr (.spt t)))) := h.hcard e
theorem k_line (L : LS (LKd CL CC) U0 H0 g S H) (e : look S.cards t = some c) (cl : Cls K CC) (na : NoAttr K CC "line") (k : ∀ H', LS (LKd CL CC) U0 H0 g (S.upC t fun c => { c with line := l }) H' → R H') :
    kSetF K "line" (.int (l : Nat)) (.ref (g.adr (.card t))) H R := by
  refine r_kSetF (L.lr.hcard e) cl na len_CF ?_
  rw [put_CF_line]
  exact k _ (L.setC (f := fun c => { c with line := l }) e rfl)
theorem k_quantum {z : Int} (L : LS (LKd CL CC) U0 H0 g S H) (e : look S.cards t = some c) (cl : Cls K CC) (na : NoAttr K CC "quantum") (k : ∀ H', LS (LKd CL CC) U0 H0 g (S.upC t fun c => { c with q := z }) H' → R H') :
    kSetF K "quantum" (.int z) (.ref (g.adr (.card t))) H R := by
  refine r_kSetF (L.lr.hcard e) cl na len_CF ?_
  rw [put_CF_quantum]
  exact k _ (L.setC (f := fun c => { c with q := z }) e rfl)
theorem k_share {z : Int} (L : LS (LKd CL CC) U0 H0 g S H) (e : look S.cards t = some c) (cl : Cls K CC) (na : NoAttr K CC "share") (k : ∀ H', LS (LKd CL CC) U0 H0 g (S.upC t fun c => { c with sh := z }) H' → R H') :
    kSetF K "share" (.int z) (.ref (g.adr (.card t))) H R := by
  refine r_kSetF (L.lr.hcard e) cl na len_CF ?_
  rw [put_CF_share]
  exact k _ (L.setC (f := fun c => { c with sh := z }) e rfl)
theorem k_ready {b : Bool} (L : LS (LKd CL CC) U0 H0 g S H) (e : look S.cards t = some c) (cl : Cls K CC) (na : NoAttr K CC "is_ready") (k : ∀ H', LS (LKd CL CC) U0 H0 g (S.upC t fun c => { c with rdy := b }) H' → R H') :
    kSetF K "is_ready" (.bl b) (.ref (g.adr (.card t))) H R := by
  refine r_kSetF (L.lr.hcard e) cl na len_CF ?_
  rw [put_CF_is_ready]
  exact k _ (L.setC (f := fun c => { c with rdy := b }) e rfl)
theorem ka_quantum {z : Int} (L : LS (LKd CL CC) U0 H0 g S H) (e : look S.cards t = some c) (k : ∀ H', LS (LKd CL CC) U0 H0 g (S.upC t fun c => { c with q := z }) H' → R H') :
    kSetA "quantum" (g.adr (.card t)) CC (.int z) R H := by
  refine r_kSetA (L.lr.hcard e) len_CF ?_
  rw [put_CF_quantum]
  exact k _ (L.setC (f := fun c => { c with q := z }) e rfl)
theorem ka_share {z : Int} (L : LS (LKd CL CC) U0 H0 g S H) (e : look S.cards t = some c) (k : ∀ H', LS (LKd CL CC) U0 H0 g (S.upC t fun c => { c with sh := z }) H' → R H') :
    kSetA "share" (g.adr (.card t)) CC (.int z) R H := by
  refine r_kSetA (L.lr.hcard e) len_CF ?_
  rw [put_CF_share]
  exact k _ (L.setC (f := fun c => { c with sh := z }) e rfl)
theorem ka_time {z : Int} (L : LS (LKd CL CC) U0 H0 g S H) (k : ∀ H', LS (LKd CL CC) U0 H0 g { S with time := z } H' → R H') :
    kSetA "time" (g.adr .self) CL (.int z) R H := by
  refine r_kSetA L.lr.hself len_LF ?_
  rw [put_LF_time]
  exact k _ L.setT
end
/-! ### of any lines: rows, what was spent -/
section
variable {kd : Kd} {U0 : Addr → Prop} {H0 H : Hp} {g : Geo} {S : LSt} {t : Int} {c : Card} {l : Nat} {R : Hp → Prop} {Q : VK} {K : PySem.W.Frag}
theorem k_append (L : LS kd U0 H0 g S H) (hl : l < S.rows.length) (hz : (S.row l).length < 100000) (k : ∀ H', LS kd U0 H0 g (S.upR l (· ++ [t])) H' → Q .non H') : rAppend (.ref (g.adr (.row l))) [.int t] H Q := by
  refine r_append (L.lr.hrow (LSt.row_at hl)) (by rw [List.length_map]; exact hz) ?_
  have e : (S.row l).map V.int ++ [.int t] = ((S.row l) ++ [t]).map V.int := by rw [List.map_append]; rfl
  rw [e]
  exact k _ (L.setR (f := (· ++ [t])) (LSt.row_at hl))
theorem k_clear (L : LS kd U0 H0 g S H) (hl : l < S.rows.length) (k : ∀ H', LS kd U0 H0 g (S.upR l fun _ => []) H' → Q .non H') : rClear (.ref (g.adr (.row l))) [] H Q := by
  refine r_clear (L.lr.hrow (LSt.row_at hl)) ?_
  exact k _ (L.setR (f := fun _ => []) (LSt.row_at hl))
theorem first_idx {xs : List Int} {t : Int} (h : t ∈ xs) : ∃ j, xs[j]? = some t ∧ (∀ m : Nat, m < j → xs[m]? ≠ some t) ∧ xs.eraseIdx j = xs.erase t := by
  have hj := List.idxOf_lt_length_iff.mpr h
  refine ⟨xs.idxOf t, ?_, fun m hm e => ?_, (List.erase_eq_eraseIdx_of_idxOf rfl).symm⟩
  · rw [List.getElem?_eq_getElem hj, List.getElem_idxOf hj]
  · have hm' : m < xs.length := (List.getElem?_eq_some_iff.mp e).1
    have e2 : xs[m] = t := (List.getElem?_eq_some_iff.mp e).2
    have := List.not_of_lt_findIdx (p := (· == t)) hm
    simp [e2] at this
theorem k_remove (L : LS kd U0 H0 g S H) (hl : l < S.rows.length) (ht : t ∈ S.row l) (k : ∀ H', LS kd U0 H0 g (S.upR l (·.erase t)) H' → Q .non H') : rRemI (.ref (g.adr (.row l))) [.int t] H Q := by
  obtain ⟨j, h1, h2, h3⟩ := first_idx ht
  refine ⟨_, S.row l, t, j, rfl, rfl, L.lr.hrow (LSt.row_at hl), h1, h2, ?_⟩
  rw [h3]
  exact k _ (L.setR (f := (·.erase t)) (LSt.row_at hl))
theorem k_spent {i : Nat} {z : Int} (L : LS kd U0 H0 g S H) (e : look S.cards t = some c) (hi : i < c.sp.length) (k : ∀ H', LS kd U0 H0 g (S.upC t fun c => { c with sp := c.sp.set i z }) H' → R H') : rSetL (.ref (g.adr (.spt t))) (.int (i : Nat)) (.int z) H R := by
  refine r_setL (L.lr.hspt e) (n := i) (by rw [List.length_map]; unfold ixN; rw [if_pos (by omega), if_pos (by omega)]; congr 1) ?_
  rw [← List.map_set]
  exact k _ (L.setSp (f := fun sp => sp.set i z) e)
instance rd_gIxL {x y : V} : Rd (gIxL K x y H Q) (rIxL K x y H Q) := ⟨id⟩
end
/-! ### the list of a comprehension -/
def kLc (J : It) (g : TG) (tt : TT) (te : TE) (vs : List Nat) (σ : St) (Q : VK) (H1 : Hp) : Prop := ∀ D, H1 D = none → ∃ W : Nat → Nat → Hp → Prop, (∃ m, W 0 m (upd H1 D (.lst []))) ∧ ∀ i m H, W i m H →
  (J.stop i H ∧ Q (.ref D) H) ∨ (J.go i H ∧ ∃ Nx : Hp → Prop, (∀ H', Nx H' → ∃ m', m' < m ∧ W (i + 1) m' H') ∧ ∀ x H', J.yld i H x H' → g x (wipe σ vs) H' fun σ2 H2 => wipe σ2 vs = wipe σ vs ∧ tt σ2 H2 fun b H3 =>
    if b = true then te σ2 H3 fun y H4 => ∃ acc, H4 D = some (.lst acc) ∧ acc.length < sizeLine ∧ Nx (upd H4 D (.lst (acc ++ [y]))) else Nx H3)
instance rd_lc {wi : TI} {g : TG} {tt : TT} {te : TE} {vs : List Nat} {σ : St} {H : Hp} {Q : VK} : Rd (tLc wi g tt te vs σ H Q) (wi σ H fun J H1 => kLc J g tt te vs σ Q H1) := ⟨id⟩
/-- the list at D gets y -/
def kApp (D : Addr) (N : Hp → Prop) : VK := fun y H4 => ∃ acc, H4 D = some (.lst acc) ∧ acc.length < sizeLine ∧ N (upd H4 D (.lst (acc ++ [y])))
/-- what a turn leaves -/
def kTurn (D : Addr) (N : List V → Hp → Prop) : Hp → Prop := fun H => ∃ acc, H D = some (.lst acc) ∧ N acc H
theorem r_kApp {D : Addr} {N : List V → Hp → Prop} {y : V} {H : Hp} {acc : List V} (h : H D = some (.lst acc)) (hz : acc.length < 100000) (k : N (acc ++ [y]) (upd H D (.lst (acc ++ [y])))) : kApp D (kTurn D N) y H :=
  ⟨acc, h, Nat.lt_of_lt_of_le hz (by decide), _, upd_same, k⟩
theorem w_lc {J : It} {n : Nat} {G : Hp → Prop} {Y : Nat → Hp → V → Hp → Prop} {g : TG} {tt : TT} {te : TE} {vs : List Nat} {σ σ0 : St} {H1 : Hp} {Q : VK} (w : Walk J n G Y) (hw : wipe σ vs = σ0) (Pv : Addr → Nat → List V → Hp → Prop)
    (h0 : ∀ D, H1 D = none → Pv D 0 [] (upd H1 D (.lst []))) (hG : ∀ D i acc H, H1 D = none → i ≤ n → H D = some (.lst acc) → Pv D i acc H → G H)
    (hs : ∀ D i acc x H H', H1 D = none → i < n → H D = some (.lst acc) → Pv D i acc H → Y i H x H' → g x σ0 H' fun σ2 H2 => wipe σ2 vs = σ0 ∧ tt σ2 H2 fun b H3 =>
      kIf b (te σ2 H3 (kApp D (kTurn D (Pv D (i + 1))))) (kTurn D (Pv D (i + 1)) H3))
    (hd : ∀ D acc H, H1 D = none → H D = some (.lst acc) → Pv D n acc H → Q (.ref D) H) : kLc J g tt te vs σ Q H1 := by
  subst hw
  intro D hD
  refine ⟨fun i m H => m = n - i ∧ i ≤ n ∧ kTurn D (Pv D i) H, ⟨n, by simp, Nat.zero_le _, [], upd_same, h0 D hD⟩, ?_⟩
  rintro i m H ⟨rfl, hi, acc, ha, p⟩
  have q := hG D i acc H hD hi ha p
  by_cases hlt : i < n
  · exact .inr ⟨w.goes i H hlt q, kTurn D (Pv D (i + 1)), fun H' p' => ⟨n - (i + 1), by omega, rfl, hlt, p'⟩, fun x H' y => hs D i acc x H H' hD hlt ha p (w.yields i H x H' hlt q y)⟩
  · have e : i = n := by omega
    subst e
    exact .inl ⟨w.stops H q, hd D acc H hD ha p⟩
end Qn

/-! Q6: a card more; rows anew; lines as a whole. -/
namespace Qn
open PySem L2
def Geo.put (g : Geo) (t : Int) (x s dx : Addr) : Geo := { g with adr := fun i => if i = .card t then x else if i = .spt t then s else g.adr i, cdx := fun u => if u = t then dx else g.cdx u }
section
variable {kd : Kd} {U0 : Addr → Prop} {H0 H H' : Hp} {g : Geo} {S : LSt} {t : Int} {c : Card} {x s dx : Addr}
theorem put_other {i : LC} (h1 : i ≠ .card t) (h2 : i ≠ .spt t) : (g.put t x s dx).adr i = g.adr i := by
  show (if i = .card t then x else if i = .spt t then s else g.adr i) = _
  rw [if_neg h1, if_neg h2]
theorem put_card : (g.put t x s dx).adr (.card t) = x := by show (if LC.card t = .card t then x else _) = _; rw [if_pos rfl]
theorem put_spt : (g.put t x s dx).adr (.spt t) = s := by show (if LC.spt t = .card t then x else if LC.spt t = .spt t then s else _) = _; rw [if_neg (by intro z; cases z), if_pos rfl]
theorem put_cdx : (g.put t x s dx).cdx t = dx := by show (if t = t then dx else _) = _; rw [if_pos rfl]
theorem live_add {i : LC} (e : look S.cards t = none) : live { S with cards := S.cards ++ [(t, c)] } i ↔ live S i ∨ i = .card t ∨ i = .spt t := by
  have aux : ∀ u, look (S.cards ++ [(t, c)]) u ≠ none ↔ look S.cards u ≠ none ∨ u = t := fun u => by
    rw [look_snoc e]
    by_cases q : u = t
    · rw [if_pos q]; simp [q]
    · rw [if_neg q]; simp [q]
  cases i with
  | self => simp [live]
  | cards => simp [live]
  | rws => simp [live]
  | row i => simp [live]
  | card u => exact (aux u).trans (by simp [live])
  | spt u => exact (aux u).trans (by simp [live])
theorem LR.come (h : LR kd g S H) (e : look S.cards t = none) (hx : ¬ Foot g S x) (hs : ¬ Foot g S s) (hne : x ≠ s)
    (old : ∀ i o, lcont kd g S i = some o → i ≠ .cards → H' (g.adr i) = some o) (hc : H' (g.adr .cards) = some (.dK (putK (refs (fun t => g.adr (.card t)) S.cards) (.inl t) (.ref x))))
    (h1 : H' x = some (kd.card (g.put t x s dx) t c s)) (h2 : H' s = some (.lst (c.sp.map V.int))) : LR kd (g.put t x s dx) { S with cards := S.cards ++ [(t, c)] } H' := by
  have no : ∀ i, live S i → i ≠ .card t ∧ i ≠ .spt t := fun i hi => ⟨fun z => by subst z; exact hi e, fun z => by subst z; exact hi e⟩
  constructor
  · intro i o ho
    have lv := (live_add e).mp (cont_live ho)
    by_cases q1 : i = .card t
    · subst q1
      rw [put_card, h1]
      have ho' : (look (S.cards ++ [(t, c)]) t).map (fun c => kd.card (g.put t x s dx) t c ((g.put t x s dx).adr (.spt t))) = some o := ho
      rw [look_snoc e, if_pos rfl, put_spt] at ho'
      exact ho'
    by_cases q2 : i = .spt t
    · subst q2
      rw [put_spt, h2]
      have ho' : (look (S.cards ++ [(t, c)]) t).map (fun c => HO.lst (c.sp.map V.int)) = some o := ho
      rw [look_snoc e, if_pos rfl] at ho'
      exact ho'
    rw [put_other q1 q2]
    by_cases q3 : i = .cards
    · subst q3
      rw [hc, refs_put e (c := c)]
      have ho' : some (HO.dK (refs (fun u => (g.put t x s dx).adr (.card u)) (S.cards ++ [(t, c)]))) = some o := ho
      rw [← ho']
      congr 2
      congr 1
      funext u
      by_cases z : u = t
      · rw [if_pos z, z, put_card]
      · rw [if_neg z, put_other (by intro q; exact z (LC.card.inj q)) (by intro q; cases q)]
    · refine old i o ?_ q3
      rw [← ho]
      cases i with
      | self => exact congrArg some (kd.self_at g (g.put t x s dx) S.time rfl rfl (put_other (by intro q; cases q) (by intro q; cases q)) (put_other (by intro q; cases q) (by intro q; cases q))).symm
      | cards => exact absurd rfl q3
      | rws =>
        show some (HO.lst _) = some (HO.lst _)
        congr 2
      | row j => rfl
      | card u =>
        have ne : u ≠ t := fun z => q1 (by rw [z])
        show (look S.cards u).map _ = (look (S.cards ++ [(t, c)]) u).map _
        rw [look_snoc e, if_neg ne]
        cases look S.cards u with
        | none => rfl
        | some d =>
          show some (kd.card g u d _) = some (kd.card (g.put t x s dx) u d _)
          rw [put_other (by intro q; cases q) (by intro q; exact ne (LC.spt.inj q)), kd.card_at g (g.put t x s dx) u d _ (by show (if u = t then dx else g.cdx u) = _; rw [if_neg ne])]
      | spt u =>
        have ne : u ≠ t := fun z => q2 (by rw [z])
        show (look S.cards u).map _ = (look (S.cards ++ [(t, c)]) u).map _
        rw [look_snoc e, if_neg ne]
  · have at_ : ∀ i, live S i → (g.put t x s dx).adr i = g.adr i := fun i hi => put_other (no i hi).1 (no i hi).2
    have cs : ∀ i, live { S with cards := S.cards ++ [(t, c)] } i → (live S i ∧ (g.put t x s dx).adr i = g.adr i) ∨ (i = .card t ∧ (g.put t x s dx).adr i = x) ∨ (i = .spt t ∧ (g.put t x s dx).adr i = s) := fun i hi => by
      rcases (live_add e).mp hi with z | z | z
      · exact .inl ⟨z, at_ i z⟩
      · exact .inr (.inl ⟨z, z ▸ put_card⟩)
      · exact .inr (.inr ⟨z, z ▸ put_spt⟩)
    intro i j hi hj q
    rcases cs i hi with ⟨a1, a2⟩ | ⟨a1, a2⟩ | ⟨a1, a2⟩ <;> rcases cs j hj with ⟨b1, b2⟩ | ⟨b1, b2⟩ | ⟨b1, b2⟩ <;> rw [a2, b2] at q
    · exact h.inj i j a1 b1 q
    · exact absurd ⟨i, a1, q⟩ hx
    · exact absurd ⟨i, a1, q⟩ hs
    · exact absurd ⟨j, b1, q.symm⟩ hx
    · rw [a1, b1]
    · exact absurd q hne
    · exact absurd ⟨j, b1, q.symm⟩ hs
    · exact absurd q.symm hne
    · rw [a1, b1]
theorem foot_come {b : Addr} (e : look S.cards t = none) (hb : Foot (g.put t x s dx) { S with cards := S.cards ++ [(t, c)] } b) : Foot g S b ∨ b = x ∨ b = s := by
  obtain ⟨i, hi, rfl⟩ := hb
  rcases (live_add e).mp hi with z | z | z
  · refine .inl ⟨i, z, (put_other ?_ ?_).symm⟩
    · intro q; subst q; exact z e
    · intro q; subst q; exact z e
  · exact .inr (.inl (z ▸ put_card))
  · exact .inr (.inr (z ▸ put_spt))
end
theorem add_up {S : LSt} {t : Int} {c : Card} {f : Card → Card} (e : look S.cards t = none) : ({ S with cards := S.cards ++ [(t, c)] } : LSt).upC t f = { S with cards := S.cards ++ [(t, f c)] } := by
  unfold LSt.upC
  have : (S.cards.map fun p => if p.1 = t then (p.1, f p.2) else p) = S.cards := by
    conv => rhs; rw [← List.map_id S.cards]
    apply List.map_congr_left
    intro p hp
    by_cases z : p.1 = t
    · have := look_key.mpr (List.mem_map.mpr ⟨p, hp, z⟩)
      rw [e] at this
      obtain ⟨_, h⟩ := this
      cases h
    · rw [if_neg z]; rfl
  simp [this]
/-! ### lines as a whole -/
structure LA (kd : Kd) (U0 : Addr → Prop) (H0 : Hp) (g : Geo) (R : Rul) (S : LSt) (H : Hp) : Prop where
  ls : LS kd U0 H0 g S H
  rul : ∃ la ps, RulAt H g.ra R la ps
  ok : R.Ok
  wf : Wf R.lines.length [] S
section
variable {kd : Kd} {U0 : Addr → Prop} {H0 H H' : Hp} {g g' : Geo} {R : Rul} {S S' : LSt} {t : Int} {c : Card} {l : Nat}
theorem LA.trans (h : LA kd U0 H0 g R S H) (k : LA kd (Foot g S) H g' R S' H') : LA kd U0 H0 g' R S' H' := ⟨h.ls.trans k.ls, k.rul, k.ok, k.wf⟩
theorem LA.start (h : LA kd U0 H0 g R S H) : LA kd (Foot g S) H g R S H := ⟨h.ls.lr.start, h.rul, h.ok, h.wf⟩
theorem LA.same (h : LA kd U0 H0 g R S H) (k : Same H H') : LA kd U0 H0 g R S H' := by
  obtain ⟨la, ps, r⟩ := h.rul
  exact ⟨h.ls.same k, ⟨la, ps, r.same k⟩, h.ok, h.wf⟩
theorem LA.new {p : Addr} {o : HO} (h : LA kd U0 H0 g R S H) (n : H p = none) : LA kd U0 H0 g R S (upd H p o) := h.same (Same.upd n)
/-- something else changes -/
theorem LA.apart {W W' : Addr → Prop} (h : LA kd U0 H0 g R S H) (st : Step W H W' H') (d : ∀ b, W b → ¬ Foot g S b) : LA kd (Foot g S) H' g R S H' := by
  obtain ⟨la, ps, r⟩ := h.rul
  exact ⟨(h.ls.lr.frame st.1 d).start, ⟨la, ps, r.frame st.1⟩, h.ok, h.wf⟩
theorem LA.len (h : LA kd U0 H0 g R S H) : S.rows.length = R.lines.length := h.wf.rl
theorem LA.at_ (h : LA kd U0 H0 g R S H) (e : look S.cards t = some c) : c.line < S.rows.length := by rw [h.len]; exact (h.wf.key t c e).2.2.1
theorem LA.spl (h : LA kd U0 H0 g R S H) (e : look S.cards t = some c) : c.sp.length = S.rows.length := by rw [h.len]; exact (h.wf.key t c e).2.2.2
theorem LA.one (h : LA kd U0 H0 g R S H) : 0 < S.rows.length := by rw [h.len]; exact h.ok.one
end
end Qn

/-! Q7: lines in order through a run and a boost; rows anew; lists of empty lists; lists laid flat. -/
namespace Qn
open PySem L2
section
variable {n : Nat} {ts : List Int} {S : LSt} {t : Int} {c : Card} {R : Rul} {l : Nat} {m : Int}
theorem Wf.first (w : Wf n [] S) (e : S.first = some t) : ∃ c j, look S.cards t = some c ∧ c.rdy = true ∧ c.line = j ∧ t ∈ S.row j ∧ j < S.rows.length ∧ S.rdyIx.head? = some j ∧ (S.row j).head? = some t := by
  unfold LSt.first at e
  cases q : S.rdyIx with
  | nil => rw [q] at e; cases e
  | cons j r =>
    rw [q] at e
    have hj : j ∈ S.rdyIx := by rw [q]; exact List.mem_cons_self
    unfold LSt.rdyIx at hj
    obtain ⟨h1, h2⟩ := List.mem_filter.mp hj
    have hl := List.mem_range.mp h1
    cases z : S.row j with
    | nil => rw [z] at h2; cases h2
    | cons u v =>
      have e : some ((S.row j).headD 0) = some t := e
      rw [z] at e
      have e' : u = t := Option.some.inj e
      subst e'
      have hm : u ∈ S.row j := by rw [z]; exact List.mem_cons_self
      obtain ⟨_, c, hc, rd, hl2⟩ := (w.mem j u).mp hm
      exact ⟨c, j, hc, rd, hl2, hm, hl, rfl, by rw [z]; rfl⟩
theorem charge_step (w : Wf n [] S) (e : look S.cards t = some c) (rd : c.rdy = true) (hl : l < n) {S1 : LSt} {c1 : Card} (w1 : Wf n [] S1) (e1 : look S1.cards t = some c1) (r1 : c1.rdy = true) (l1 : c1.line = c.line) : Wf n [] (LSt.lay R (S1.upR c.line (·.erase t)) t l) := by
  have := w1.off e1
  rw [l1] at this
  exact this.lay (c := c1) e1 r1 hl (by simp)
theorem Wf.charge (w : Wf n [] S) (e : look S.cards t = some c) (rd : c.rdy = true) (hn : 0 < n) : Wf n [] (S.charge R t m) := by
  have w1 := w.upC (t := t) (f := fun c => { c with sp := c.sp.modify c.line (· + m), q := c.q - m, sh := c.sh - m }) fun c => ⟨rfl, rfl, List.length_modify ..⟩
  have e1 : look (S.upC t fun c => { c with sp := c.sp.modify c.line (· + m), q := c.q - m, sh := c.sh - m }).cards t = some { c with sp := c.sp.modify c.line (· + m), q := c.q - m, sh := c.sh - m } := by rw [look_upC, if_pos rfl, e]; rfl
  unfold LSt.charge
  rw [LSt.card_of e]
  dsimp only
  have kl := (w.key t c e).2.2.1
  by_cases h1 : c.sh - m = 0
  · rw [if_pos h1]
    have w2 := w1.upC (t := t) (f := fun c' => { c' with sh := R.s (min (S.rows.length - 1) (c.line + 1)) }) fun c => ⟨rfl, rfl, rfl⟩
    by_cases h2 : c.line < S.rows.length - 1 ∨ c.q - m = 0
    · rw [if_pos h2]
      refine charge_step w e rd (by rw [w.rl]; omega) w2 (c1 := { c with sp := c.sp.modify c.line (· + m), q := c.q - m, sh := R.s (min (S.rows.length - 1) (c.line + 1)) }) ?_ rd rfl
      rw [look_upC, if_pos rfl, e1]; rfl
    · rw [if_neg h2]; exact w2
  · rw [if_neg h1]
    by_cases h2 : c.q - m = 0
    · rw [if_pos h2]
      exact charge_step w e rd kl w1 e1 rd rfl
    · rw [if_neg h2]; exact w1
theorem Wf.setT {z : Int} (w : Wf n ts S) : Wf n ts { S with time := z } := ⟨w.rl, w.key, w.nd, w.mem, w.rnd⟩
theorem Wf.run (w : Wf n [] S) (hn : 0 < n) : Wf n [] (S.run R m) := by
  unfold LSt.run
  have w1 := w.setT (z := S.time + m)
  cases e : ({ S with time := S.time + m } : LSt).first with
  | none => exact w1
  | some t =>
    obtain ⟨c, j, hc, rd, _⟩ := w1.first e
    exact w1.charge hc rd hn
/-! a boost -/
def LSt.later (S : LSt) : List Int := (S.rows.drop 1).flatten
theorem mem_later : t ∈ S.later ↔ ∃ l, 1 ≤ l ∧ t ∈ S.row l := by
  unfold LSt.later
  rw [List.mem_flatten]
  constructor
  · rintro ⟨xs, hx, ht⟩
    obtain ⟨i, hi, rfl⟩ := List.mem_iff_getElem.mp hx
    rw [List.getElem_drop] at ht
    rw [List.length_drop] at hi
    exact ⟨1 + i, by omega, by rw [LSt.row_some (List.getElem?_eq_getElem (by omega))]; exact ht⟩
  · rintro ⟨l, h1, ht⟩
    have hl : l < S.rows.length := by
      apply Classical.byContradiction
      intro z
      unfold LSt.row at ht
      rw [List.getD_eq_getElem?_getD, List.getElem?_eq_none (by omega)] at ht
      cases ht
    refine ⟨S.row l, ?_, ht⟩
    have := LSt.row_at hl
    apply List.mem_iff_getElem?.mpr
    exact ⟨l - 1, by rw [List.getElem?_drop]; rw [show 1 + (l - 1) = l by omega]; exact this⟩
theorem Wf.laterND (w : Wf n [] S) : S.later.Nodup := by
  unfold LSt.later
  show List.Pairwise _ _
  rw [List.pairwise_flatten]
  constructor
  · intro xs hx
    obtain ⟨i, hi, rfl⟩ := List.mem_iff_getElem.mp (List.mem_of_mem_drop hx)
    have := w.rnd i
    rw [LSt.row_some (List.getElem?_eq_getElem hi)] at this
    exact this
  · rw [List.pairwise_iff_getElem]
    intro i j hi hj hij x hx y hy z
    rw [List.getElem_drop] at hx hy
    rw [List.length_drop] at hi hj
    subst z
    have h1 : x ∈ S.row (1 + i) := by rw [LSt.row_some (List.getElem?_eq_getElem (by omega))]; exact hx
    have h2 : x ∈ S.row (1 + j) := by rw [LSt.row_some (List.getElem?_eq_getElem (by omega))]; exact hy
    obtain ⟨_, c, e, _, a⟩ := (w.mem _ _).mp h1
    obtain ⟨_, c', e', _, a'⟩ := (w.mem _ _).mp h2
    rw [e] at e'
    have := Option.some.inj e'
    subst this
    omega
theorem row_clear {i : Nat} (hn : 0 < S.rows.length) : (S.clear R).row i = if i = 0 then S.row 0 else [] := by
  unfold LSt.clear LSt.row
  cases i with
  | zero => simp
  | succ i =>
    simp only [List.getD_cons_succ, if_neg (Nat.succ_ne_zero i)]
    rw [List.getD_eq_getElem?_getD]
    by_cases h : i < S.rows.length - 1
    · rw [List.getElem?_replicate, if_pos h]; rfl
    · rw [List.getElem?_replicate, if_neg h]; rfl
theorem Wf.clear (w : Wf n [] S) (hn : 0 < n) : Wf n S.later (S.clear R) := by
  have hn' : 0 < S.rows.length := by rw [w.rl]; exact hn
  have lk : ∀ u, look (S.clear R).cards u = (look S.cards u).map fun c => { c with line := 0, sh := R.s 0 } := fun u => look_map (f := fun c => { c with line := 0, sh := R.s 0 })
  refine ⟨by unfold LSt.clear; simp; have := w.rl; omega, fun u c e => ?_, ?_, fun l u => ?_, fun l => ?_⟩
  · rw [lk] at e
    cases z : look S.cards u with
    | none => rw [z] at e; cases e
    | some c' =>
      rw [z] at e
      rw [← Option.some.inj e]
      have := w.key u c' z
      exact ⟨this.1, this.2.1, hn, this.2.2.2⟩
  · show ((S.cards.map _).map Prod.fst).Nodup
    rw [List.map_map]
    exact w.nd
  · rw [row_clear hn', lk]
    by_cases h0 : l = 0
    · rw [if_pos h0, w.mem 0 u]
      constructor
      · rintro ⟨_, c, e, r, z⟩
        refine ⟨fun h => ?_, { c with line := 0, sh := R.s 0 }, by rw [e]; rfl, r, h0.symm⟩
        obtain ⟨l', h1, h2⟩ := mem_later.mp h
        obtain ⟨_, c', e', _, z'⟩ := (w.mem l' u).mp h2
        rw [e] at e'
        have := Option.some.inj e'
        subst this
        omega
      · rintro ⟨a, c, e, r, z⟩
        refine ⟨by simp, ?_⟩
        cases q : look S.cards u with
        | none => rw [q] at e; cases e
        | some c' =>
          rw [q] at e
          have e' := Option.some.inj e
          have r' : c'.rdy = true := by rw [← e'] at r; exact r
          refine ⟨c', rfl, r', ?_⟩
          apply Classical.byContradiction
          intro nz
          exact a (mem_later.mpr ⟨c'.line, by omega, (w.mem _ _).mpr ⟨by simp, c', q, r', rfl⟩⟩)
    · rw [if_neg h0]
      constructor
      · intro h; cases h
      · rintro ⟨a, c, e, r, z⟩
        cases q : look S.cards u with
        | none => rw [q] at e; cases e
        | some c' =>
          rw [q] at e
          rw [← Option.some.inj e] at z
          exact absurd z.symm h0
  · rw [row_clear hn']
    by_cases h0 : l = 0
    · rw [if_pos h0]; exact w.rnd 0
    · rw [if_neg h0]; exact List.nodup_nil
theorem look_lay {S : LSt} {t u : Int} {l : Nat} : look (S.lay R t l).cards u = if u = t then (look S.cards u).map (fun c => { c with line := l, q := R.q l }) else look S.cards u := look_upC (f := fun c => { c with line := l, q := R.q l })
theorem Wf.lays : ∀ {ts : List Int} {S : LSt}, Wf n ts S → ts.Nodup → (∀ t ∈ ts, ∃ c, look S.cards t = some c ∧ c.rdy = true) → 0 < n → Wf n [] (ts.foldl (fun S t => LSt.lay R S t 0) S)
  | [], _, w, _, _, _ => w
  | t :: r, S, w, nd, h, hn => by
    obtain ⟨c, e, rd⟩ := h t List.mem_cons_self
    have nd' := List.nodup_cons.mp nd
    refine Wf.lays (ts := r) (w.lay e rd hn nd'.1) nd'.2 (fun u hu => ?_) hn
    have ne : u ≠ t := fun z => nd'.1 (z ▸ hu)
    rw [look_lay, if_neg ne]
    exact h u (List.mem_cons_of_mem _ hu)
theorem Wf.boosted (w : Wf n [] S) (hn : 0 < n) : Wf n [] (S.boosted R) := by
  refine Wf.lays (w.clear hn) w.laterND (fun t ht => ?_) hn
  obtain ⟨l, _, h⟩ := mem_later.mp ht
  obtain ⟨_, c, e, rd, _⟩ := (w.mem l t).mp h
  exact ⟨{ c with line := 0, sh := R.s 0 }, by rw [show look (S.clear R).cards t = _ from look_map (f := fun c => { c with line := 0, sh := R.s 0 }), e]; rfl, rd⟩
end
end Qn

/-! Q8: rows anew; lists of empty lists; lists laid flat. -/
namespace Qn
open PySem L2
/-- [[] for x in ..]: new lists, apart -/
structure Nils (H1 H' : Hp) (D : Addr) (qs : List Addr) : Prop where
  same : Same H1 H'
  nd : qs.Nodup
  each : ∀ q ∈ qs, H1 q = none ∧ q ≠ D ∧ H' q = some (.lst [])
theorem w_nils {J : It} {n m : Nat} {G : Hp → Prop} {Y : Nat → Hp → V → Hp → Prop} {σ : St} {H1 : Hp} {Q : VK} (w : Walk J n G Y) (hz : n ≤ 1000) (hm : m < σ.length) (hG : ∀ H', Same H1 H' → G H') (hY : ∀ i H x H', Y i H x H' → H' = H)
    (k : ∀ D qs H', H1 D = none → H' D = some (.lst (qs.map V.ref)) → qs.length = n → Nils H1 H' D qs → Q (.ref D) H') : kLc J (gName m) tYes (tLst tNil) [m] σ Q H1 := by
  refine w_lc w rfl (fun D i acc H' => ∃ qs, acc = qs.map V.ref ∧ qs.length = i ∧ Nils H1 H' D qs) (fun D hD => ⟨[], rfl, rfl, Same.upd hD, List.nodup_nil, fun q h => by cases h⟩) (fun D i acc H' hD hi ha p => by obtain ⟨qs, _, _, N⟩ := p; exact hG _ N.same) ?_ ?_
  · rintro D i acc x H H' hD hi ha ⟨qs, rfl, hl, N⟩ y
    cases hY i H x H' y
    show wipe ((wipe σ [m]).set m (some x)) [m] = wipe σ [m] ∧ _
    refine ⟨by show (((σ.set m none).set m (some x)).set m none) = σ.set m none; rw [List.set_set, List.set_set], ?_⟩
    refine r_kTT ?_
    refine r_kLst (by decide) fun q nq => ?_
    have nD : D ≠ q := fun z => by rw [← z, ha] at nq; cases nq
    have n1 : H1 q = none := by
      cases e : H1 q with
      | none => rfl
      | some o => rw [N.same q o e] at nq; cases nq
    refine r_kApp (by rw [upd_ne nD]; exact ha) (by rw [List.length_map]; omega) ⟨qs ++ [q], by rw [List.map_append]; rfl, by simp [hl], ?_, ?_, ?_⟩
    · exact Same.late (N.same.trans (Same.upd nq)) hD
    · refine List.nodup_append.mpr ⟨N.nd, by simp, fun a ha' b hb => ?_⟩
      rw [List.mem_singleton] at hb
      intro z
      rw [hb] at z
      rw [z] at ha'
      rw [(N.each q ha').2.2] at nq; cases nq
    · intro b hb
      rcases List.mem_append.mp hb with h | h
      · obtain ⟨h1, h2, h3⟩ := N.each b h
        refine ⟨h1, h2, ?_⟩
        rw [upd_ne h2, upd_ne fun z => by rw [z, nq] at h3; cases h3]
        exact h3
      · rw [List.mem_singleton] at h
        subst h
        exact ⟨n1, Ne.symm nD, by rw [upd_ne (Ne.symm nD)]; exact upd_same⟩
  · rintro D acc H hD ha ⟨qs, rfl, hl, N⟩
    exact k D qs H hD ha hl N
/-! rows anew -/
def Geo.rows (g : Geo) (y : Addr) (f : Nat → Addr) : Geo := { g with adr := fun
  | .rws => y
  | .row (j + 1) => f j
  | i => g.adr i }
section
variable {kd : Kd} {U0 : Addr → Prop} {H0 H H' : Hp} {g : Geo} {S : LSt} {t : Int} {c : Card} {y : Addr} {f : Nat → Addr}
def LSt.reRows (S : LSt) : LSt := { S with rows := S.row 0 :: List.replicate (S.rows.length - 1) [] }
theorem LR.reRows (h : LR kd g S H) (hn : 0 < S.rows.length) (hy : ¬ Foot g S y) (hf : ∀ j, j < S.rows.length - 1 → ¬ Foot g S (f j) ∧ f j ≠ y ∧ H' (f j) = some (.lst [])) (inj : ∀ i j, i < S.rows.length - 1 → j < S.rows.length - 1 → f i = f j → i = j)
    (old : ∀ i o, lcont kd g S i = some o → i ≠ .self → H' (g.adr i) = some o) (hs : H' (g.adr .self) = some (kd.self (g.rows y f) S.time)) (h1 : H' y = some (.lst (.ref (g.adr (.row 0)) :: (List.range (S.rows.length - 1)).map fun j => .ref (f j)))) :
    LR kd (g.rows y f) S.reRows H' := by
  have len : S.reRows.rows.length = S.rows.length := by unfold LSt.reRows; simp; omega
  have at_ : ∀ i, i ≠ .rws → (∀ j, i ≠ .row (j + 1)) → (g.rows y f).adr i = g.adr i := fun i n1 n2 => by
    cases i with
    | rws => exact absurd rfl n1
    | row j => cases j with
      | zero => rfl
      | succ j => exact absurd rfl (n2 j)
    | _ => rfl
  constructor
  · intro i o ho
    cases i with
    | self => exact hs.trans ho
    | cards => exact old .cards o ho (by intro z; cases z)
    | rws =>
      refine h1.trans ?_
      have ho' : some (HO.lst ((List.range S.reRows.rows.length).map fun i => V.ref ((g.rows y f).adr (.row i)))) = some o := ho
      rw [← ho', len]
      congr 2
      obtain ⟨n, hn⟩ : ∃ n, S.rows.length = n + 1 := ⟨S.rows.length - 1, by omega⟩
      rw [hn, List.range_succ_eq_map, List.map_cons, List.map_map]
      rfl
    | row j =>
      cases j with
      | zero =>
        refine old (.row 0) o ?_ (by intro z; cases z)
        rw [← ho]
        have e1 : S.reRows.rows[0]? = some (S.row 0) := rfl
        simp only [lcont]
        rw [LSt.row_at hn, e1]
      | succ j =>
        have ho' : (S.reRows.rows[j + 1]?).map (fun xs => HO.lst (xs.map V.int)) = some o := ho
        have hj : j < S.rows.length - 1 := by
          apply Classical.byContradiction
          intro z
          rw [List.getElem?_eq_none (by omega)] at ho'; cases ho'
        have : S.reRows.rows[j + 1]? = some [] := by
          show (List.replicate (S.rows.length - 1) ([] : List Int))[j]? = some []
          rw [List.getElem?_replicate, if_pos hj]
        rw [this] at ho'
        exact (hf j hj).2.2.trans ho'
    | card u =>
      refine old (.card u) o ?_ (by intro z; cases z)
      rw [← ho]
      show (look S.cards u).map _ = (look S.cards u).map _
      congr 1
      funext c
      exact (kd.card_at g (g.rows y f) u c _ rfl).symm
    | spt u => exact old (.spt u) o ho (by intro z; cases z)
  · have cs : ∀ i, live S.reRows i → (live S i ∧ (g.rows y f).adr i = g.adr i) ∨ (i = .rws) ∨ ∃ j, i = .row (j + 1) ∧ j < S.rows.length - 1 := fun i hi => by
      cases i with
      | rws => exact .inr (.inl rfl)
      | row j =>
        have hi' : j < S.reRows.rows.length := hi
        cases j with
        | zero => exact .inl ⟨hn, rfl⟩
        | succ j => exact .inr (.inr ⟨j, rfl, by omega⟩)
      | self => exact .inl ⟨trivial, rfl⟩
      | cards => exact .inl ⟨trivial, rfl⟩
      | card u => exact .inl ⟨hi, rfl⟩
      | spt u => exact .inl ⟨hi, rfl⟩
    intro i j hi hj q
    rcases cs i hi with ⟨a1, a2⟩ | a1 | ⟨u, a1, a2⟩ <;> rcases cs j hj with ⟨b1, b2⟩ | b1 | ⟨v, b1, b2⟩
    · rw [a2, b2] at q; exact h.inj i j a1 b1 q
    · subst b1; rw [a2] at q; exact absurd ⟨i, a1, q⟩ hy
    · subst b1; rw [a2] at q; exact absurd ⟨i, a1, q⟩ (hf v b2).1
    · subst a1; rw [b2] at q; exact absurd ⟨j, b1, q.symm⟩ hy
    · rw [a1, b1]
    · subst a1 b1; exact absurd (show f v = y from q.symm) (hf v b2).2.1
    · subst a1; rw [b2] at q; exact absurd ⟨j, b1, q.symm⟩ (hf u a2).1
    · subst a1 b1; exact absurd (show f u = y from q) (hf u a2).2.1
    · subst a1 b1; rw [inj u v a2 b2 q]
theorem foot_reRows {b : Addr} (hn : 0 < S.rows.length) (hb : Foot (g.rows y f) S.reRows b) : Foot g S b ∨ b = y ∨ ∃ j, j < S.rows.length - 1 ∧ b = f j := by
  have len : S.reRows.rows.length = S.rows.length := by unfold LSt.reRows; simp; omega
  obtain ⟨i, hi, rfl⟩ := hb
  cases i with
  | rws => exact .inr (.inl rfl)
  | row j =>
    have hi' : j < S.reRows.rows.length := hi
    cases j with
    | zero => exact .inl ⟨.row 0, hn, rfl⟩
    | succ j => exact .inr (.inr ⟨j, by omega, rfl⟩)
  | self => exact .inl ⟨.self, trivial, rfl⟩
  | cards => exact .inl ⟨.cards, trivial, rfl⟩
  | card u => exact .inl ⟨.card u, hi, rfl⟩
  | spt u => exact .inl ⟨.spt u, hi, rfl⟩
end
theorem put_LF_rows {g : Geo} {z : Int} {y : Addr} {f : Nat → Addr} : putF "rows" (.ref y) (LF g z) = LF (g.rows y f) z := by
  unfold LF; rw [put_miss (by decide +kernel), put_miss (by decide +kernel), put_hit]; rfl
/-! all cards changed, one by one -/
theorem ups_all {S : LSt} {f : Card → Card} (hf : ∀ c, f (f c) = f c) : (S.cards.map Prod.fst).foldl (fun S t => S.upC t f) S = { S with cards := S.cards.map fun p => (p.1, f p.2) } := by
  have aux : ∀ (ks : List Int) (S : LSt), ks.foldl (fun S t => S.upC t f) S = { S with cards := S.cards.map fun p => if p.1 ∈ ks then (p.1, f p.2) else p } := by
    intro ks
    induction ks with
    | nil => intro S; simp
    | cons k r ih =>
      intro S
      rw [List.foldl_cons, ih]
      unfold LSt.upC
      simp only [List.map_map]
      congr 1
      apply List.map_congr_left
      intro p _
      by_cases e : p.1 = k
      · by_cases e2 : k ∈ r <;> simp [e, e2, hf]
      · by_cases e2 : p.1 ∈ r <;> simp [e, e2]
  rw [aux]
  congr 1
  apply List.map_congr_left
  intro p hp
  rw [if_pos (List.mem_map.mpr ⟨p, hp, rfl⟩)]
end Qn

/-! Q9: [x for row in rows for x in row]: rows laid flat. -/
namespace Qn
open PySem L2
def kLc2 (K : PySem.W.Frag) (J : It) (m m1 : Nat) (σ : St) (Q : VK) (H1 : Hp) : Prop := ∀ D, H1 D = none → ∃ W : Nat → Nat → Hp → Prop, (∃ m, W 0 m (upd H1 D (.lst []))) ∧ ∀ i k H, W i k H →
  (J.stop i H ∧ Q (.ref D) H) ∨ (J.go i H ∧ ∃ Nx : Hp → Prop, (∀ H', Nx H' → ∃ m', m' < k ∧ W (i + 1) m' H') ∧ ∀ x H', J.yld i H x H' → gName m x (wipe σ [m, m1]) H' fun σ2 H2 => wipe σ2 [m, m1] = wipe σ [m, m1] ∧ tYes σ2 H2 fun b H3 =>
    if b = true then iList K (tVar m) σ2 H3 fun J1 H4 => ∃ W1 : Nat → Nat → Hp → Prop, (∃ m, W1 0 m H4) ∧ ∀ j k H, W1 j k H →
      (J1.stop j H ∧ Nx H) ∨ (J1.go j H ∧ ∃ Nx1 : Hp → Prop, (∀ H', Nx1 H' → ∃ k', k' < k ∧ W1 (j + 1) k' H') ∧ ∀ x H', J1.yld j H x H' → gName m1 x (wipe σ2 [m1]) H' fun σ3 H5 => wipe σ3 [m1] = wipe σ2 [m1] ∧ tYes σ3 H5 fun b H6 =>
        if b = true then tVar m1 σ3 H6 fun y H7 => ∃ acc, H7 D = some (.lst acc) ∧ acc.length < sizeLine ∧ Nx1 (upd H7 D (.lst (acc ++ [y]))) else Nx1 H6)
    else Nx H3)
instance rd_lc2 {K : PySem.W.Frag} {wi : TI} {m m1 : Nat} {σ : St} {H : Hp} {Q : VK} : Rd (tLc2 wi (gName m) tYes (iList K (tVar m)) (gName m1) tYes (tVar m1) [m, m1] [m1] σ H Q) (wi σ H fun J H1 => kLc2 K J m m1 σ Q H1) := ⟨id⟩
theorem flat_snoc {xss : List (List Int)} {i : Nat} {xs : List Int} (h : xss[i]? = some xs) : (xss.take (i + 1)).flatten = (xss.take i).flatten ++ xs := by
  rw [List.take_add_one, h, List.flatten_append]; simp
theorem w_flat {K : PySem.W.Frag} {p : Addr} {m m1 : Nat} {σ : St} {H1 : Hp} {Q : VK} {rs : List Addr} {xss : List (List Int)} (hp : H1 p = some (.lst (rs.map V.ref))) (hl : rs.length = xss.length)
    (hr : ∀ (i : Nat) (r : Addr) (xs : List Int), rs[i]? = some r → xss[i]? = some xs → H1 r = some (.lst (xs.map V.int))) (hz : xss.flatten.length < 100000) (hm : m < σ.length) (hm1 : m1 < σ.length) (ne : m ≠ m1)
    (k : ∀ D H', H1 D = none → Same H1 H' → H' D = some (.lst (xss.flatten.map V.int)) → Q (.ref D) H') : kLc2 K (Itl K p) m m1 σ Q H1 := by
  intro D hD
  have w := walk_list (K := K) (a := p) (xs := rs.map V.ref)
  rw [List.length_map] at w
  refine ⟨fun i k H => k = rs.length - i ∧ i ≤ rs.length ∧ Same H1 H ∧ H D = some (.lst ((xss.take i).flatten.map V.int)), ⟨rs.length, by simp, Nat.zero_le _, Same.upd hD, by rw [List.take_zero]; exact upd_same⟩, ?_⟩
  rintro i q H ⟨rfl, hi, s1, hd⟩
  have hq := SqL.of (K := K) (s1 _ _ hp)
  by_cases hlt : i < rs.length
  · refine .inr ⟨w.goes i H hlt hq, fun H' => Same H1 H' ∧ H' D = some (.lst ((xss.take (i + 1)).flatten.map V.int)), fun H' p' => ⟨rs.length - (i + 1), by omega, rfl, hlt, p'.1, p'.2⟩, fun x H' y => ?_⟩
    obtain ⟨rfl, hx⟩ := w.yields i H x H' hlt hq y
    rw [List.getElem?_map] at hx
    have er : rs[i]? = some rs[i] := List.getElem?_eq_getElem hlt
    rw [er] at hx
    cases Option.some.inj hx
    have hlt' : i < xss.length := by omega
    have ex : xss[i]? = some xss[i] := List.getElem?_eq_getElem hlt'
    generalize hxs : xss[i] = xs at ex
    generalize hrr : rs[i] = r at er
    have hrow := hr i r xs er ex
    have wl : (wipe σ [m, m1]).length = σ.length := wipe_length σ _
    show wipe ((wipe σ [m, m1]).set m (some (V.ref r))) [m, m1] = wipe σ [m, m1] ∧ _
    refine ⟨?_, ?_⟩
    · show (((((σ.set m1 none).set m none).set m (some (V.ref r))).set m1 none).set m none) = ((σ.set m1 none).set m none)
      rw [List.set_set, List.set_comm _ _ (Ne.symm ne), List.set_set, List.set_comm _ _ ne, List.set_set]
    refine r_yes ?_
    refine r_kTT ?_
    refine ⟨V.ref r, by rw [List.getElem?_set_self (by omega)], ?_⟩
    refine ⟨r, rfl, ⟨xs.map V.int, SqL.of (s1 _ _ hrow)⟩, ?_⟩
    have w1 := walk_list (K := K) (a := r) (xs := xs.map V.int)
    rw [List.length_map] at w1
    refine ⟨fun j k H => k = xs.length - j ∧ j ≤ xs.length ∧ Same H1 H ∧ H D = some (.lst (((xss.take i).flatten ++ xs.take j).map V.int)), ⟨xs.length, by simp, Nat.zero_le _, s1, by rw [List.take_zero, List.append_nil]; exact hd⟩, ?_⟩
    rintro j q H2 ⟨rfl, hj, s2, hd2⟩
    have hq2 := SqL.of (K := K) (s2 _ _ hrow)
    by_cases hjl : j < xs.length
    · refine .inr ⟨w1.goes j H2 hjl hq2, fun H' => Same H1 H' ∧ H' D = some (.lst (((xss.take i).flatten ++ xs.take (j + 1)).map V.int)), fun H' p' => ⟨xs.length - (j + 1), by omega, rfl, hjl, p'.1, p'.2⟩, fun x H3 y => ?_⟩
      obtain ⟨rfl, hx⟩ := w1.yields j H2 x H3 hjl hq2 y
      rw [List.getElem?_map, List.getElem?_eq_getElem hjl] at hx
      cases Option.some.inj hx
      show wipe ((wipe ((wipe σ [m, m1]).set m (some (V.ref r))) [m1]).set m1 (some (V.int xs[j]))) [m1] = wipe ((wipe σ [m, m1]).set m (some (V.ref r))) [m1] ∧ _
      refine ⟨by show ((((wipe σ [m, m1]).set m (some (V.ref r))).set m1 none).set m1 (some (V.int xs[j]))).set m1 none = ((wipe σ [m, m1]).set m (some (V.ref r))).set m1 none; rw [List.set_set, List.set_set], ?_⟩
      refine r_yes ?_
      refine r_kTT ?_
      refine ⟨V.int xs[j], by rw [List.getElem?_set_self (by rw [wipe_length, List.length_set]; omega)], ?_⟩
      refine ⟨_, hd2, ?_, Same.late s2 hD, ?_⟩
      · refine Nat.lt_of_lt_of_le ?_ (show 100000 ≤ sizeLine by decide)
        have e1 : ((xss.take i).flatten ++ xs).length ≤ xss.flatten.length := by
          rw [← flat_snoc ex]
          conv => rhs; rw [← List.take_append_drop (i + 1) xss]
          rw [List.flatten_append, List.length_append]; omega
        rw [List.length_append] at e1
        rw [List.length_map, List.length_append, List.length_take]
        omega
      · rw [upd_same]
        have e2 : xs.take (j + 1) = xs.take j ++ [xs[j]] := by rw [List.take_add_one, List.getElem?_eq_getElem hjl]; rfl
        rw [e2, ← List.append_assoc, List.map_append (l₂ := [xs[j]])]; rfl
    · have e : j = xs.length := by omega
      subst e
      refine .inl ⟨w1.stops H2 hq2, s2, ?_⟩
      rw [flat_snoc ex]
      rw [List.take_length] at hd2
      exact hd2
  · have e : i = rs.length := by omega
    subst e
    refine .inl ⟨w.stops H hq, k D H hD s1 ?_⟩
    rw [hl, List.take_length] at hd
    exact hd
end Qn

/-! Q10: cuts from the second on; a locked dict of cards; values of it. -/
namespace Qn
open PySem L2
theorem cut1 {xs : List V} : cutV xs (some 1) none = xs.drop 1 := by
  unfold cutV
  rw [show (some (1 : Int)) = some (((1 : Nat) : Int)) from rfl, HT.sIx_nat, HT.sIx_none]
  cases xs with
  | nil => rfl
  | cons x r => simp
theorem drop_refs {n : Nat} {A : Nat → Addr} (hn : 0 < n) : ((List.range n).map fun i => V.ref (A i)).drop 1 = ((List.range (n - 1)).map fun j => A (j + 1)).map V.ref := by
  obtain ⟨m, rfl⟩ : ∃ m, n = m + 1 := ⟨n - 1, by omega⟩
  rw [List.range_succ_eq_map, List.map_cons, List.drop_succ_cons, List.drop_zero, List.map_map, Nat.add_sub_cancel, List.map_map]
  rfl
section
variable {K : PySem.W.Frag} {H : Hp} {Q : VK} {a : Addr} {xs : List V} {R : It → Hp → Prop} {ta : TE} {σ : St}
theorem r_slA1 (h : SqT K H a xs) (hn : 0 < xs.length) (k : ∀ p, H p = none → Q (.ref p) (upd H p (.tup (xs.drop 1)))) : rSlA K (.ref a) (some 1) none H Q := by
  refine ⟨a, xs, rfl, h, fun z => ?_, fun _ p hp => ?_⟩
  · have := z.1
    rw [show (some (1 : Int)) = some (((1 : Nat) : Int)) from rfl, HT.sIx_nat] at this
    omega
  · rw [cut1]; exact k p hp
def kIVals (x : V) (H1 : Hp) (R : It → Hp → Prop) : Prop := ∃ d o kvs, x = .ref d ∧ H1 d = some (.frz o (.dK kvs)) ∧ R (Itd d o kvs) H1
instance rd_iVals : Rd (iVals ta σ H R) (ta σ H fun x H1 => kIVals x H1 R) := ⟨id⟩
theorem r_kIVals {o : Obj} {kvs : List (Key × V)} (h : H a = some (.frz o (.dK kvs))) (k : R (Itd a o kvs) H) : kIVals (.ref a) H R := ⟨a, o, kvs, rfl, h, k⟩
end
theorem upd_com {H : Hp} {a b : Addr} {o u : HO} (h : a ≠ b) : upd (upd H a o) b u = upd (upd H b u) a o := by
  funext c
  by_cases ca : c = a
  · subst ca; rw [upd_ne h, upd_same, upd_same]
  · by_cases cb : c = b
    · subst cb; rw [upd_same, upd_ne ca, upd_same]
    · rw [upd_ne cb, upd_ne ca, upd_ne ca, upd_ne cb]
theorem upd_own {H : Hp} {a : Addr} {o : HO} (h : H a = some o) : upd H a o = H := by
  funext c
  by_cases ca : c = a
  · subst ca; rw [upd_same, h]
  · rw [upd_ne ca]
/-- the lines but that their dict of cards is locked -/
structure LF_ (kd : Kd) (U0 : Addr → Prop) (H0 : Hp) (g : Geo) (S : LSt) (od : Obj) (kvs : List (Key × V)) (H : Hp) : Prop where
  frz : H (g.adr .cards) = some (.frz od (.dK kvs))
  ls : LS kd U0 H0 g S (upd H (g.adr .cards) (.dK kvs))
section
variable {K : PySem.W.Frag} {CL CC : Addr} {U0 : Addr → Prop} {H0 H : Hp} {g : Geo} {S : LSt} {t : Int} {c : Card} {l : Nat} {R : Hp → Prop} {od : Obj} {kvs : List (Key × V)} {kd : Kd}
theorem LF_.start (L : LS kd U0 H0 g S H) : LF_ kd U0 H0 g S od (refs (fun t => g.adr (.card t)) S.cards) (upd H (g.adr .cards) (.frz od (.dK (refs (fun t => g.adr (.card t)) S.cards)))) :=
  ⟨upd_same, by rw [upd_upd, upd_own L.lr.hcards]; exact L⟩
theorem LF_.ne (L : LF_ kd U0 H0 g S od kvs H) {i : LC} (h : live S i) (hi : i ≠ .cards) : g.adr i ≠ g.adr .cards := fun z => hi (L.ls.lr.inj i .cards h trivial z)
theorem LF_.cell (L : LF_ kd U0 H0 g S od kvs H) {i : LC} {o : HO} (h : lcont kd g S i = some o) (hi : i ≠ .cards) : H (g.adr i) = some o := by
  have := L.ls.lr.there i o h
  rw [upd_ne (L.ne (cont_live h) hi)] at this
  exact this
theorem LF_.sf (L : LF_ (LKd CL CC) U0 H0 g S od kvs H) : H (g.adr .self) = some (.ins CL g.dx (LF g S.time)) := L.cell (i := .self) rfl (by intro z; cases z)
theorem LF_.cd (L : LF_ (LKd CL CC) U0 H0 g S od kvs H) (e : look S.cards t = some c) : H (g.adr (.card t)) = some (.ins CC (g.cdx t) (CF c (g.adr (.spt t)))) := L.cell (i := .card t) (by simp only [lcont]; rw [e]; rfl) (by intro z; cases z)
theorem LF_.tup (L : LF_ kd U0 H0 g S od kvs H) {b : Addr} {xs : List V} (h : H0 b = some (.tup xs)) : H b = some (.tup xs) := by
  have := L.ls.st.1.2 b xs h
  by_cases e : b = g.adr .cards
  · rw [e, upd_same] at this; cases this
  · rw [upd_ne e] at this; exact this
theorem LF_.put {f : Card → Card} (L : LF_ kd U0 H0 g S od kvs H) (e : look S.cards t = some c) (hf : (f c).sp = c.sp) : LF_ kd U0 H0 g (S.upC t f) od kvs (upd H (g.adr (.card t)) (kd.card g t (f c) (g.adr (.spt t)))) := by
  have ne := L.ne (i := .card t) (by show look S.cards t ≠ none; rw [e]; simp) (by intro z; cases z)
  refine ⟨by rw [upd_ne (Ne.symm ne)]; exact L.frz, ?_⟩
  rw [upd_com ne]
  exact L.ls.setC e hf
theorem kf_line (L : LF_ (LKd CL CC) U0 H0 g S od kvs H) (e : look S.cards t = some c) (cl : Cls K CC) (na : NoAttr K CC "line") (k : ∀ H', LF_ (LKd CL CC) U0 H0 g (S.upC t fun c => { c with line := l }) od kvs H' → R H') :
    kSetF K "line" (.int (l : Nat)) (.ref (g.adr (.card t))) H R := by
  refine r_kSetF (L.cd e) cl na len_CF ?_
  rw [put_CF_line]
  exact k _ (L.put (f := fun c => { c with line := l }) e rfl)
theorem kf_share {z : Int} (L : LF_ (LKd CL CC) U0 H0 g S od kvs H) (e : look S.cards t = some c) (cl : Cls K CC) (na : NoAttr K CC "share") (k : ∀ H', LF_ (LKd CL CC) U0 H0 g (S.upC t fun c => { c with sh := z }) od kvs H' → R H') :
    kSetF K "share" (.int z) (.ref (g.adr (.card t))) H R := by
  refine r_kSetF (L.cd e) cl na len_CF ?_
  rw [put_CF_share]
  exact k _ (L.put (f := fun c => { c with sh := z }) e rfl)
end
theorem range_getD {n : Nat} {qs : List Addr} (h : qs.length = n) : ((List.range n).map fun j => V.ref (qs.getD j 0)) = qs.map V.ref := by
  apply List.ext_getElem
  · simp [h]
  · intro i h1 h2
    have h1' : i < qs.length := by simpa using h2
    simp [List.getD, h1']
theorem ups_keys {S : LSt} {f : Card → Card} {ks : List Int} (hf : ∀ c, f (f c) = f c) (hk : ∀ p ∈ S.cards, p.1 ∈ ks) : ks.foldl (fun S t => S.upC t f) S = { S with cards := S.cards.map fun p => (p.1, f p.2) } := by
  have aux : ∀ (ks : List Int) (S : LSt), ks.foldl (fun S t => S.upC t f) S = { S with cards := S.cards.map fun p => if p.1 ∈ ks then (p.1, f p.2) else p } := by
    intro ks
    induction ks with
    | nil => intro S; simp
    | cons k r ih =>
      intro S
      rw [List.foldl_cons, ih]
      unfold LSt.upC
      simp only [List.map_map]
      congr 1
      apply List.map_congr_left
      intro p _
      by_cases e : p.1 = k
      · by_cases e2 : k ∈ r <;> simp [e, e2, hf]
      · by_cases e2 : p.1 ∈ r <;> simp [e, e2]
  rw [aux]
  congr 1
  apply List.map_congr_left
  intro p hp
  rw [if_pos (hk p hp)]
/-- later rows emptied, the first i of them -/
def LSt.empt (S : LSt) (i : Nat) : LSt := (List.range i).foldl (fun S j => S.upR (j + 1) fun _ => []) S
theorem empt_len {S : LSt} : ∀ {i : Nat}, (S.empt i).rows.length = S.rows.length
  | 0 => rfl
  | i + 1 => by
    unfold LSt.empt
    rw [List.range_succ, List.foldl_append]
    show (LSt.upR (S.empt i) (i + 1) _).rows.length = _
    rw [LSt.rows_upR]
    exact empt_len
theorem empt_succ {S : LSt} {i : Nat} : S.empt (i + 1) = (S.empt i).upR (i + 1) fun _ => [] := by
  unfold LSt.empt
  rw [List.range_succ, List.foldl_append]; rfl
theorem empt_row {S : LSt} {j : Nat} : ∀ {i : Nat}, (S.empt i).row j = if 1 ≤ j ∧ j ≤ i ∧ j < S.rows.length then [] else S.row j
  | 0 => by rw [if_neg (by omega)]; rfl
  | i + 1 => by
    rw [empt_succ, LSt.row_upR, empt_row (i := i), empt_len]
    by_cases h1 : i + 1 = j ∧ i + 1 < S.rows.length
    · rw [if_pos h1, if_pos (by omega)]
    · rw [if_neg h1]
      by_cases h2 : 1 ≤ j ∧ j ≤ i ∧ j < S.rows.length
      · rw [if_pos h2, if_pos (by omega)]
      · rw [if_neg h2, if_neg (by omega)]
theorem empt_rest {S : LSt} : ∀ {i : Nat}, (S.empt i).cards = S.cards ∧ (S.empt i).time = S.time
  | 0 => ⟨rfl, rfl⟩
  | i + 1 => by rw [empt_succ]; exact empt_rest (i := i)
theorem empt_all {S : LSt} (hn : 0 < S.rows.length) : S.empt (S.rows.length - 1) = S.reRows := by
  have e1 : (S.empt (S.rows.length - 1)).rows = S.reRows.rows := by
    apply List.ext_getElem?
    intro j
    by_cases hj : j < S.rows.length
    · rw [LSt.row_at (by rw [empt_len]; exact hj), LSt.row_at (by unfold LSt.reRows; simp; omega), empt_row]
      congr 1
      by_cases h0 : j = 0
      · subst h0; rw [if_neg (by omega)]; rfl
      · rw [if_pos (by omega)]
        obtain ⟨k, rfl⟩ : ∃ k, j = k + 1 := ⟨j - 1, by omega⟩
        show [] = (S.row 0 :: List.replicate (S.rows.length - 1) []).getD (k + 1) []
        rw [List.getD_cons_succ, List.getD_eq_getElem?_getD, List.getElem?_replicate, if_pos (by omega)]; rfl
    · rw [List.getElem?_eq_none (by rw [empt_len]; omega), List.getElem?_eq_none (by unfold LSt.reRows; simp; omega)]
  have e2 := empt_rest (S := S) (i := S.rows.length - 1)
  have : S.empt (S.rows.length - 1) = ⟨(S.empt (S.rows.length - 1)).cards, (S.empt (S.rows.length - 1)).rows, (S.empt (S.rows.length - 1)).time⟩ := rfl
  rw [this, e1, e2.1, e2.2]; rfl
theorem LS.out {kd : Kd} {U0 : Addr → Prop} {H0 H : Hp} {g : Geo} {S : LSt} {E : Addr} {o : HO} (L : LS kd U0 H0 g S H) (n : ¬ Foot g S E) (n0 : H0 E = none) : LS kd U0 H0 g S (upd H E o) := by
  refine ⟨L.lr.keep fun a ha => upd_ne fun z => n (z ▸ ha), ⟨fun b v e nb => upd_oth (L.st.1.1 b v e nb) fun z => ?_, fun b xs e => upd_oth (L.st.1.2 b xs e) fun z => ?_⟩, L.st.2⟩
  · rw [z, n0] at e; cases e
  · rw [z, n0] at e; cases e
theorem foot_live {g : Geo} {S S' : LSt} {b : Addr} (h : ∀ i, live S' i → live S i) (hb : Foot g S' b) : Foot g S b := by
  obtain ⟨i, hi, e⟩ := hb
  exact ⟨i, h i hi, e⟩
theorem w_seq {t1 t2 : TS} {D : Ends} {σ : St} {H : Hp} (N : St → Hp → Prop) (h2 : ∀ σ' H', N σ' H' → t2 D σ' H') (h1 : ∀ N' : St → Hp → Prop, (∀ σ' H', N σ' H' → N' σ' H') → t1 { D with nx := N' } σ H) : tSeq t1 t2 D σ H := h1 _ h2
theorem keys_ups {f : Card → Card} : ∀ {ks : List Int} {S : LSt}, (ks.foldl (fun S t => S.upC t f) S).cards.map Prod.fst = S.cards.map Prod.fst
  | [], _ => rfl
  | k :: r, S => by
    rw [List.foldl_cons, keys_ups (ks := r)]
    exact keys_up
theorem refs_at {g : Int → Addr} {cs : List (Int × Card)} {i : Nat} {k : Key} {x : V} (h : (refs g cs)[i]? = some (k, x)) : ∃ t, (cs.map Prod.fst)[i]? = some t ∧ x = .ref (g t) := by
  unfold refs at h
  rw [List.getElem?_map] at h
  cases e : cs[i]? with
  | none => rw [e] at h; cases h
  | some p =>
    rw [e] at h
    refine ⟨p.1, by rw [List.getElem?_map, e]; rfl, ?_⟩
    have := Option.some.inj h
    exact (Prod.mk.inj this).2.symm
end Qn

/-! S0: what stands in a heap, in parts that stand apart; what is known of it for good; walks over it. -/
namespace Qn
open PySem L2
def Apart (h1 h2 : Hp) : Prop := ∀ a, h1 a = none ∨ h2 a = none
def hnil : Hp := fun _ => none
/-- the one, else the other -/
def hor (h1 h2 : Hp) : Hp := fun a => match h1 a with
  | some o => some o
  | none => h2 a
/-- an assertion: of what is known for good, and of what is owned -/
structure As where
  p : Hp → Hp → Prop
  mono : ∀ {k k' h : Hp}, Same k k' → p k h → p k' h
abbrev Ty := V → As
def At (v : V) (X : Ty) : As := X v
def SatL : List As → Hp → Hp → Prop
  | [], _, _ => True
  | A :: P, k, h => ∃ h1 h2, Same h1 h ∧ Same h2 h ∧ Apart h1 h2 ∧ A.p k h1 ∧ SatL P k h2
def NoTup (h : Hp) : Prop := ∀ a xs, h a ≠ some (.tup xs)
def Sat (P : List As) (H : Hp) : Prop := ∃ k h, Same k H ∧ Same h H ∧ Apart k h ∧ NoTup h ∧ SatL P k h
def Ent (P : List As) (X : Hp → Prop) : Prop := ∀ H, Sat P H → X H
section
variable {P P' F G : List As} {A B : As} {H H' k k' h h' h1 h2 h3 : Hp} {X Y : Hp → Prop} {v : V} {a b : Addr} {o : HO}
theorem Apart.symm (x : Apart h1 h2) : Apart h2 h1 := fun a => (x a).symm
theorem Apart.sub (x : Apart h1 h2) (s1 : Same h h1) (s2 : Same h' h2) : Apart h h' := fun a => by
  rcases x a with e | e
  · exact .inl (s1.free e)
  · exact .inr (s2.free e)
theorem apart_nil : Apart hnil h := fun _ => .inl rfl
theorem same_nil : Same hnil h := fun _ _ e => by cases e
theorem hor_l (e : h1 a = some o) : hor h1 h2 a = some o := by unfold hor; rw [e]
theorem hor_r (e : h1 a = none) : hor h1 h2 a = h2 a := by unfold hor; rw [e]
theorem same_hor_l : Same h1 (hor h1 h2) := fun _ _ e => hor_l e
theorem same_hor_r (x : Apart h1 h2) : Same h2 (hor h1 h2) := fun b o e => by
  rcases x b with z | z
  · rw [hor_r z]; exact e
  · rw [z] at e; cases e
theorem hor_sub (s1 : Same h1 h) (s2 : Same h2 h) : Same (hor h1 h2) h := fun b o e => by
  cases z : h1 b with
  | some u => rw [hor_l z] at e; exact s1 b o (z.trans e)
  | none => rw [hor_r z] at e; exact s2 b o e
theorem hor_apart (s1 : Apart h1 h) (s2 : Apart h2 h) : Apart (hor h1 h2) h := fun b => by
  rcases s1 b with z | z
  · rcases s2 b with y | y
    · exact .inl (by rw [hor_r z]; exact y)
    · exact .inr y
  · exact .inr z
theorem SatL.up : ∀ {P : List As} {h h' : Hp}, SatL P k h → Same h h' → SatL P k h'
  | [], _, _, _, _ => trivial
  | _ :: _, _, _, ⟨h1, h2, s1, s2, x, y, z⟩, s => ⟨h1, h2, s1.trans s, s2.trans s, x, y, z⟩
theorem SatL.mono : ∀ {P : List As} {h : Hp}, SatL P k h → Same k k' → SatL P k' h
  | [], _, _, _ => trivial
  | A :: _, _, ⟨h1, h2, s1, s2, x, y, z⟩, s => ⟨h1, h2, s1, s2, x, A.mono s y, SatL.mono z s⟩
theorem SatL.swap (x : SatL (A :: B :: P) k h) : SatL (B :: A :: P) k h := by
  obtain ⟨h1, h2, s1, s2, x, y, h3, h4, s3, s4, x2, y2, z⟩ := x
  refine ⟨h3, hor h1 h4, s3.trans s2, hor_sub s1 (s4.trans s2), (hor_apart (x.sub (Same.refl _) s3) x2.symm).symm, y2, h1, h4, same_hor_l, same_hor_r (x.sub (Same.refl _) s4), x.sub (Same.refl _) s4, y, z⟩
theorem SatL.tail (x : SatL (A :: P) k h) : SatL P k h := by
  obtain ⟨h1, h2, s1, s2, x, y, z⟩ := x
  exact z.up s2
theorem SatL.cons (f : ∀ k h, SatL P k h → SatL P' k h) (x : SatL (A :: P) k h) : SatL (A :: P') k h := by
  obtain ⟨h1, h2, s1, s2, x, y, z⟩ := x
  exact ⟨h1, h2, s1, s2, x, y, f _ _ z⟩
/-! what is there, by a value -/
class Take (P : List As) (v : V) (X : outParam Ty) (F : outParam (List As)) : Prop where
  tk : ∀ k h, SatL P k h → SatL (At v X :: F) k h
class Pers (X : Ty) : Prop where
  pers : ∀ v k h, (X v).p k h → (X v).p k hnil
instance (priority := 900) take_here {X : Ty} : Take (At v X :: P) v X P := ⟨fun _ _ x => x⟩
instance (priority := 1000) take_pers {X : Ty} [Pers X] : Take (At v X :: P) v X (At v X :: P) := ⟨fun k h x => by
  have x' := x
  obtain ⟨h1, h2, s1, s2, q, y, z⟩ := x
  exact ⟨hnil, h, same_nil, Same.refl _, apart_nil, Pers.pers _ _ _ y, x'⟩⟩
instance (priority := 100) take_skip {X : Ty} [t : Take P v X F] : Take (A :: P) v X (A :: F) := ⟨fun _ _ x => (SatL.cons t.tk x).swap⟩
theorem NoTup.sub (n : NoTup h) (s : Same h' h) : NoTup h' := fun a xs e => n a xs (s _ _ e)
theorem noTup_nil : NoTup hnil := fun a xs e => by cases e
theorem noTup_one {p : Addr} (n : ∀ xs, o ≠ .tup xs) : NoTup (upd hnil p o) := fun b xs e => by
  by_cases z : b = p
  · rw [z, upd_same] at e; exact n xs (Option.some.inj e)
  · rw [upd_ne z] at e; cases e
theorem noTup_hor (n : NoTup h1) (m : NoTup h2) : NoTup (hor h1 h2) := fun b xs e => by
  cases z : h1 b with
  | some u => rw [hor_l z] at e; exact n b xs (z.trans e)
  | none => rw [hor_r z] at e; exact m b xs e
theorem Sat.imp (f : ∀ k h, SatL P k h → SatL P' k h) (s : Sat P H) : Sat P' H := by
  obtain ⟨k, h, s1, s2, x, nt, y⟩ := s
  exact ⟨k, h, s1, s2, x, nt, f _ _ y⟩
theorem Sat.take {X : Ty} [t : Take P v X F] (s : Sat P H) : Sat (At v X :: F) H := s.imp t.tk
theorem Ent.at (s : Sat P H) (e : Ent P X) : X H := e H s
theorem Ent.atG {i : Nat} {u : V} {σ : L2.St} {S : L2.St → Hp → Prop} (s : Sat P H) (e : Ent P (fun H => gName i u σ H S)) : gName i u σ H S := e H s
theorem Ent.mono (e : Ent P' X) (f : ∀ k h, SatL P k h → SatL P' k h) : Ent P X := fun H s => e H (s.imp f)
/-- one from the other -/
class Imp (P Q : List As) : Prop where
  imp : ∀ k h, SatL P k h → SatL Q k h
instance (priority := 1100) imp_refl : Imp P P := ⟨fun _ _ x => x⟩
instance (priority := 1000) imp_nil : Imp P [] := ⟨fun _ _ _ => trivial⟩
instance (priority := 900) imp_at {X : Ty} [t : Take P v X F] [i : Imp F G] : Imp P (At v X :: G) := ⟨fun k h x => SatL.cons i.imp (t.tk k h x)⟩
instance (priority := 100) imp_drop [i : Imp P G] : Imp (A :: P) G := ⟨fun k h x => i.imp k h x.tail⟩
theorem Ent.to {Q : List As} [i : Imp P Q] (e : Ent Q X) : Ent P X := e.mono i.imp
theorem Sat.to {Q : List As} [i : Imp P Q] (s : Sat P H) : Sat Q H := s.imp i.imp
/-- a part changes, the rest stands -/
theorem Sat.part (s : Sat (A :: F) H) : ∃ k h, Same k H ∧ Same h H ∧ Apart k h ∧ NoTup h ∧ A.p k h ∧
    ∀ (B : List As) (H' k' h' : Hp), Same k k' → Same k' H' → Same h' H' → Apart k' h' → NoTup h' → SatL B k' h' → (∀ b o, H b = some o → h b = none → H' b = some o) →
      (∀ b, k' b ≠ none → h b ≠ none ∨ k b ≠ none ∨ H b = none ∨ ∃ xs, k' b = some (.tup xs)) → (∀ b, h' b ≠ none → h b ≠ none ∨ H b = none) → Sat (B ++ F) H' := by
  obtain ⟨k, h, s1, s2, x, nt, hA, hF, sA, sF, y, pA, pF⟩ := s
  refine ⟨k, hA, s1, sA.trans s2, x.sub (Same.refl _) sA, nt.sub sA, pA, fun B H' k' h' kk k1 k2 k3 n3 pB out newk newh => ?_⟩
  have sF' : Same hF H' := fun b o e => out b o (s2 _ _ (sF _ _ e)) ((y b).resolve_right (by rw [e]; simp))
  have apk : ∀ b, k' b ≠ none → hF b = none := fun b hb => by
    rcases newk b hb with z | z | z | ⟨xs, z⟩
    · exact (y b).resolve_left z
    · exact sF.free ((x b).resolve_left z)
    · exact (sF.trans s2).free z
    · cases e : hF b with
      | none => rfl
      | some o =>
        have e1 := sF' _ _ e
        rw [k1 _ _ z] at e1
        exact absurd (sF _ _ e) (by rw [← Option.some.inj e1]; exact nt b xs)
  have aph : ∀ b, h' b ≠ none → hF b = none := fun b hb => by
    rcases newh b hb with z | z
    · exact (y b).resolve_left z
    · exact (sF.trans s2).free z
  have ah : Apart h' hF := fun b => by
    cases e : h' b with
    | none => exact .inl rfl
    | some o => exact .inr (aph b (by rw [e]; simp))
  have ak : Apart k' hF := fun b => by
    cases e : k' b with
    | none => exact .inl rfl
    | some o => exact .inr (apk b (by rw [e]; simp))
  refine ⟨k', hor h' hF, k1, hor_sub k2 sF', (hor_apart k3.symm ak.symm).symm, noTup_hor n3 (nt.sub sF), ?_⟩
  have : ∀ (B : List As) (h' : Hp), SatL B k' h' → Apart h' hF → SatL (B ++ F) k' (hor h' hF) := by
    intro B
    induction B with
    | nil => intro h' _ a; exact (pF.mono kk).up (same_hor_r a)
    | cons C B ih =>
      rintro h' ⟨h1, h2, t1, t2, ax, p1, p2⟩ a
      have a2 := a.sub t2 (Same.refl _)
      refine ⟨h1, hor h2 hF, fun b o e => hor_l (t1 _ _ e), hor_sub (fun b o e => hor_l (t2 _ _ e)) (same_hor_r a), (hor_apart ax.symm (a.sub t1 (Same.refl _)).symm).symm, p1, ih h2 p2 a2⟩
  exact this B h' pB ah
/-- tuples that stand in the heap may be known -/
theorem Sat.learn {k2 : Hp} (s : Sat P H) (s2 : Same k2 H) (t2 : ∀ b, k2 b ≠ none → ∃ xs, k2 b = some (.tup xs)) (hA : A.p k2 hnil) : Sat (A :: P) H := by
  obtain ⟨k, h, s1, s3, x, nt, y⟩ := s
  have sk : Same k (hor k k2) := same_hor_l
  have s2' : Same k2 (hor k k2) := fun b o e => by
    cases z : k b with
    | none => rw [hor_r z]; exact e
    | some u =>
      have e1 := s1 _ _ z
      rw [s2 _ _ e] at e1
      rw [hor_l z, e1]
  have a2 : Apart k2 h := fun b => by
    cases e : k2 b with
    | none => exact .inl rfl
    | some o =>
      refine .inr ?_
      obtain ⟨xs, z⟩ := t2 b (by rw [e]; simp)
      cases q : h b with
      | none => rfl
      | some u =>
        have e1 := s3 _ _ q
        rw [s2 _ _ z] at e1
        exact absurd q (by rw [← Option.some.inj e1]; exact nt b xs)
  exact ⟨hor k k2, h, hor_sub s1 s2, s3, hor_apart x a2, nt, hnil, h, same_nil, Same.refl _, apart_nil, A.mono s2' hA, y.mono sk⟩
/-- what is new stands beside -/
theorem Sat.new {p : Addr} (s : Sat P H) (n : H p = none) (hA : A.p hnil (upd hnil p o)) (no : ∀ xs, o ≠ .tup xs) : Sat (A :: P) (upd H p o) := by
  obtain ⟨k, h, s1, s2, x, nt, y⟩ := s
  have nk := s1.free n
  have nh := s2.free n
  have sH : Same H (upd H p o) := Same.upd n
  have sp : Same (upd hnil p o) (upd H p o) := fun b u e => by
    by_cases z : b = p
    · subst z; rw [upd_same] at e ⊢; exact e
    · rw [upd_ne z] at e; cases e
  have ap : ∀ {g : Hp}, g p = none → Apart g (upd hnil p o) := fun {g} e b => by
    by_cases z : b = p
    · subst z; exact .inl e
    · exact .inr (by rw [upd_ne z]; rfl)
  exact ⟨k, hor (upd hnil p o) h, s1.trans sH, hor_sub sp (s2.trans sH), (hor_apart (ap nk).symm x.symm).symm, noTup_hor (noTup_one no) nt, upd hnil p o, h, same_hor_l, same_hor_r (ap nh).symm, (ap nh).symm, A.mono same_nil hA, y⟩
/-- what is new is known for good -/
theorem Sat.newK {p : Addr} (s : Sat P H) (n : H p = none) (hA : A.p (upd hnil p o) hnil) : Sat (A :: P) (upd H p o) := by
  obtain ⟨k, h, s1, s2, x, nt, y⟩ := s
  have nk := s1.free n
  have nh := s2.free n
  have sH : Same H (upd H p o) := Same.upd n
  have sp : Same (upd hnil p o) (upd H p o) := fun b u e => by
    by_cases z : b = p
    · subst z; rw [upd_same] at e ⊢; exact e
    · rw [upd_ne z] at e; cases e
  have ap : ∀ {g : Hp}, g p = none → Apart g (upd hnil p o) := fun {g} e b => by
    by_cases z : b = p
    · subst z; exact .inl e
    · exact .inr (by rw [upd_ne z]; rfl)
  have sk : Same k (hor k (upd hnil p o)) := same_hor_l
  exact ⟨hor k (upd hnil p o), h, hor_sub (s1.trans sH) sp, s2.trans sH, hor_apart x (ap nh).symm, nt, hnil, h, same_nil, Same.refl _, apart_nil, A.mono (same_hor_r (ap nk)) hA, y.mono sk⟩
theorem Sat.same (s : Sat P H) (z : Same H H') : Sat P H' := by
  obtain ⟨k, h, s1, s2, x, nt, y⟩ := s
  exact ⟨k, h, s1.trans z, s2.trans z, x, nt, y⟩
end
/-! ### steps -/
class Stp (P : List As) (X : Hp → Prop) (P' : outParam (List As)) (Y : outParam (Hp → Prop)) : Prop where
  by_ : Ent P' Y → Ent P X
theorem stp {P : List As} {X : Hp → Prop} {P' : List As} {Y : Hp → Prop} [s : Stp P X P' Y] (e : Ent P' Y) : Ent P X := s.by_ e
instance (priority := 100) stp_rd {P : List As} {X Y : Hp → Prop} [h : ∀ H, Rd (X H) (Y H)] : Stp P X P Y := ⟨fun e H s => (h H).by_ (e H s)⟩
/-! ### kinds of things -/
/-- one owned cell -/
def Cel (o : HO) : Ty := fun v => ⟨fun _ h => ∃ p, v = .ref p ∧ h p = some o, fun _ x => x⟩
/-- one cell known for good -/
def Kel (o : HO) : Ty := fun v => ⟨fun k _ => ∃ p, v = .ref p ∧ k p = some o, fun s ⟨p, e, x⟩ => ⟨p, e, s _ _ x⟩⟩
abbrev LstX (xs : List V) : Ty := Cel (.lst xs)
abbrev DctX (kvs : List (Key × V)) : Ty := Cel (.dK kvs)
abbrev KLst (xs : List V) : Ty := Kel (.lst xs)
abbrev KTup (xs : List V) : Ty := Kel (.tup xs)
instance pers_kel {o : HO} : Pers (Kel o) := ⟨fun _ _ _ x => x⟩
theorem sqL_sub {K : PySem.W.Frag} {H H' : Hp} {a : Addr} {xs : List V} (h : SqL K H a xs) (s : Same H H') : SqL K H' a xs := by
  rcases h with (h | ⟨o, h⟩) | h
  · exact .inl (.inl (s _ _ h))
  · exact .inl (.inr ⟨o, s _ _ h⟩)
  · exact .inr h
theorem sqT_sub {K : PySem.W.Frag} {H H' : Hp} {a : Addr} {xs : List V} (h : SqT K H a xs) (s : Same H H') : SqT K H' a xs := by
  rcases h with (h | ⟨o, h⟩) | h
  · exact .inl (.inl (s _ _ h))
  · exact .inl (.inr ⟨o, s _ _ h⟩)
  · exact .inr h
mutual
theorem dp_sub {K : PySem.W.Frag} {H H' : Hp} (s : Same H H') : ∀ {v : V} {d : PyData}, Dp K H v d → Dp K H' v d
  | _, _, .non => .non
  | _, _, .bl b => .bl b
  | _, _, .int i => .int i
  | _, _, .str x => .str x
  | _, _, .lst h r => .lst (sqL_sub h s) (dpAll_sub s r)
  | _, _, .tup h r => .tup (sqT_sub h s) (dpAll_sub s r)
theorem dpAll_sub {K : PySem.W.Frag} {H H' : Hp} (s : Same H H') : ∀ {v : List V} {d : List PyData}, DpAll K H v d → DpAll K H' v d
  | _, _, .nil => .nil
  | _, _, .cons h r => .cons (dp_sub s h) (dpAll_sub s r)
end
/-- data, known for good -/
def Dat (K : PySem.W.Frag) (d : PyData) : Ty := fun v => ⟨fun k _ => Dp K k v d, fun s x => dp_sub s x⟩
end Qn

/-! S1: the rules of readings over parts. -/
namespace Qn
open PySem L2
/-- one cell -/
class Lk (X : Ty) (o : outParam HO) : Prop where
  lk : ∀ v k h, (X v).p k h → ∃ p, v = .ref p ∧ (h p = some o ∨ k p = some o)
instance lk_cel {o : HO} : Lk (Cel o) o := ⟨fun _ _ _ ⟨p, e, x⟩ => ⟨p, e, .inl x⟩⟩
instance lk_kel {o : HO} : Lk (Kel o) o := ⟨fun _ _ _ ⟨p, e, x⟩ => ⟨p, e, .inr x⟩⟩
class Sees (P : List As) (p : Addr) (o : outParam HO) : Prop where
  sees : ∀ H, Sat P H → H p = some o
theorem Sat.sees {F : List As} {X : Ty} {p : Addr} {o : HO} {H : Hp} [l : Lk X o] (s : Sat (At (.ref p) X :: F) H) : H p = some o := by
  obtain ⟨k, h, s1, s2, x, nt, h1, h2, t1, t2, y, pA, pF⟩ := s
  obtain ⟨q, e, z⟩ := l.lk _ _ _ pA
  cases e
  rcases z with z | z
  · exact s2 _ _ (t1 _ _ z)
  · exact s1 _ _ z
instance sees_take {P F : List As} {X : Ty} {p : Addr} {o : HO} [t : Take P (.ref p) X F] [l : Lk X o] : Sees P p o := ⟨fun H s => Sat.sees (X := X) (F := F) (Sat.take s)⟩
class IxAt (xs : List V) (i : Int) (v : outParam V) : Prop where
  eq : atI xs i = some v
section
variable {x0 x1 x2 x3 x4 : V} {r : List V}
instance ix0 : IxAt (x0 :: r) 0 x0 := ⟨at_0⟩
instance ix1 : IxAt (x0 :: x1 :: r) 1 x1 := ⟨at_1⟩
instance ix2 : IxAt (x0 :: x1 :: x2 :: r) 2 x2 := ⟨at_2⟩
instance ix3 : IxAt (x0 :: x1 :: x2 :: x3 :: r) 3 x3 := ⟨at_3⟩
instance ix4 : IxAt (x0 :: x1 :: x2 :: x3 :: x4 :: r) 4 x4 := ⟨at_4⟩
end
section
variable {P P' F G : List As} {K : PySem.W.Frag} {σ τ : St} {Q : VK} {R : Hp → Prop} {S : St → Hp → Prop} {D : Ends} {x y z v : V} {i j : Int} {a p q C dx : Addr} {f m : Str} {xs ys : List V} {n : Nat} {b c : Bool} {A B : Hp → Prop} {o o' : HO} {kvs : List (Key × V)} {fs : List (Str × V)} {u : TGs} {ns : List Int}
/-! choices -/
theorem e_if (h1 : b = true → Ent P A) (h2 : b = false → Ent P B) : Ent P (fun H => kIf b (A H) (B H)) := by
  cases b with
  | true => exact fun H s => h1 rfl H s
  | false => exact fun H s => h2 rfl H s
theorem e_ifD {p : Prop} [Decidable p] (h1 : p → Ent P A) (h2 : ¬ p → Ent P B) : Ent P (fun H => kIf (decide p) (A H) (B H)) :=
  e_if (fun h => h1 (of_decide_eq_true h)) fun h => h2 (of_decide_eq_false h)
theorem e_ifN {p : Prop} [Decidable p] (h1 : ¬ p → Ent P A) (h2 : p → Ent P B) : Ent P (fun H => kIf (!decide p) (A H) (B H)) :=
  e_if (fun h => h1 (by simpa using h)) fun h => h2 (by simpa using h)
theorem e_ifE (h2 : Ent P B) (h1 : b = true → Ent P B → Ent P A) : Ent P (fun H => kIf b (A H) (B H)) := e_if (fun h => h1 h h2) fun _ => h2
theorem e_ifED {p : Prop} [Decidable p] (h2 : Ent P B) (h1 : p → Ent P B → Ent P A) : Ent P (fun H => kIf (decide p) (A H) (B H)) := e_ifE h2 fun h => h1 (of_decide_eq_true h)
theorem e_ifEN {p : Prop} [Decidable p] (h2 : Ent P B) (h1 : ¬ p → Ent P B → Ent P A) : Ent P (fun H => kIf (!decide p) (A H) (B H)) := e_ifE h2 fun h => h1 (by simpa using h)
theorem e_T (h : b = true) (e : Ent P A) : Ent P (fun H => kIf b (A H) (B H)) := by subst h; exact e
theorem e_F (h : b = false) (e : Ent P B) : Ent P (fun H => kIf b (A H) (B H)) := by subst h; exact e
theorem e_TD {p : Prop} [Decidable p] (h : p) (e : Ent P A) : Ent P (fun H => kIf (decide p) (A H) (B H)) := e_T (decide_eq_true h) e
theorem e_FD {p : Prop} [Decidable p] (h : ¬ p) (e : Ent P B) : Ent P (fun H => kIf (decide p) (A H) (B H)) := e_F (decide_eq_false h) e
theorem e_TN {p : Prop} [Decidable p] (h : ¬ p) (e : Ent P A) : Ent P (fun H => kIf (!decide p) (A H) (B H)) := e_T (by rw [decide_eq_false h]; rfl) e
theorem e_FN {p : Prop} [Decidable p] (h : p) (e : Ent P B) : Ent P (fun H => kIf (!decide p) (A H) (B H)) := e_F (by rw [decide_eq_true h]; rfl) e
/-! reading -/
theorem e_see (h : ∀ H, Sat P H → A H) : Ent P A := h
theorem e_ixL [s : Sees P p (.lst xs)] (e : atI xs i = some v) (k : Ent P (fun H => Q v H)) : Ent P (fun H => rIxL K (.ref p) (.int i) H Q) := fun H h => r_ixL (SqL.of (s.sees H h)) e (k H h)
theorem e_ixT [s : Sees P p (.tup xs)] (e : atI xs i = some v) (k : Ent P (fun H => Q v H)) : Ent P (fun H => rIxT K (.ref p) (.int i) H Q) := fun H h => r_ixT (SqT.of (s.sees H h)) e (k H h)
instance sp_ixL [s : Sees P p (.lst xs)] [e : IxAt xs i v] : Stp P (fun H => rIxL K (.ref p) (.int i) H Q) P (fun H => Q v H) := ⟨e_ixL e.eq⟩
instance sp_ixT [s : Sees P p (.tup xs)] [e : IxAt xs i v] : Stp P (fun H => rIxT K (.ref p) (.int i) H Q) P (fun H => Q v H) := ⟨e_ixT e.eq⟩
instance sp_lenL [s : Sees P p (.lst xs)] : Stp P (fun H => cLen K [.ref p] H Q) P (fun H => Q (.int xs.length) H) := ⟨fun k H h => r_lenL (SqL.of (s.sees H h)) (k H h)⟩
instance (priority := 900) sp_lenT [s : Sees P p (.tup xs)] : Stp P (fun H => cLen K [.ref p] H Q) P (fun H => Q (.int xs.length) H) := ⟨fun k H h => r_lenT (SqT.of (s.sees H h)) (k H h)⟩
instance sp_lenD [s : Sees P p (.dK kvs)] : Stp P (fun H => cLenD [.ref p] H Q) P (fun H => Q (.int kvs.length) H) := ⟨fun k H h => r_lenD (s.sees H h) (k H h)⟩
instance sp_kIL {R : It → Hp → Prop} [s : Sees P p (.lst xs)] : Stp P (fun H => kIL K (.ref p) H R) P (fun H => R (Itl K p) H) := ⟨fun k H h => r_kIL (SqL.of (s.sees H h)) (k H h)⟩
instance sp_kIT {R : It → Hp → Prop} [s : Sees P p (.tup xs)] : Stp P (fun H => kIT K (.ref p) H R) P (fun H => R (Itt K p) H) := ⟨fun k H h => r_kIT (SqT.of (s.sees H h)) (k H h)⟩
instance sp_kIE {R : It → Hp → Prop} [s : Sees P p (.tup xs)] : Stp P (fun H => kIE K [.ref p] H R) P (fun H => R (ItT K p) H) := ⟨fun k H h => r_kIE (SqT.of (s.sees H h)) (k H h)⟩
theorem e_unT [s : Sees P p (.tup xs)] (e : xs.length = n) (k : Ent P (fun H => u xs σ H S)) : Ent P (fun H => kUnT K n u (.ref p) σ H S) := fun H h => r_kUnT (SqT.of (s.sees H h)) e (k H h)
instance sp_unT1 [s : Sees P p (.tup [x])] : Stp P (fun H => kUnT K 1 u (.ref p) σ H S) P (fun H => u [x] σ H S) := ⟨e_unT rfl⟩
instance sp_unT2 [s : Sees P p (.tup [x, y])] : Stp P (fun H => kUnT K 2 u (.ref p) σ H S) P (fun H => u [x, y] σ H S) := ⟨e_unT rfl⟩
instance sp_unT3 [s : Sees P p (.tup [x, y, z])] : Stp P (fun H => kUnT K 3 u (.ref p) σ H S) P (fun H => u [x, y, z] σ H S) := ⟨e_unT rfl⟩
instance sp_unT4 [s : Sees P p (.tup [x, y, z, v])] : Stp P (fun H => kUnT K 4 u (.ref p) σ H S) P (fun H => u [x, y, z, v] σ H S) := ⟨e_unT rfl⟩
instance sp_BML {r : V → List V → Hp → VK → Prop} {t : TA} [s : Sees P p (.lst xs)] : Stp P (fun H => kBM K "list" r σ t (.ref p) H Q) P (fun H => t σ H fun ys H2 => r (.ref p) ys H2 Q) := ⟨fun k H h => r_kBML (SqL.of (s.sees H h)) (k H h)⟩
instance sp_BMD {r : V → List V → Hp → VK → Prop} {t : TA} [s : Sees P p (.dK kvs)] : Stp P (fun H => kBM K "dict" r σ t (.ref p) H Q) P (fun H => t σ H fun ys H2 => r (.ref p) ys H2 Q) := ⟨fun k H h => r_kBMD (s.sees H h) (k H h)⟩
theorem e_dgetI [s : Sees P p (.dK kvs)] (e : valV kvs (.inl i) = some v) (k : Ent P (fun H => Q v H)) : Ent P (fun H => kDGet (.ref p) (.int i) H Q) := fun H h => r_kDGetI (s.sees H h) e (k H h)
instance sp_dinI [s : Sees P p (.dK kvs)] : Stp P (fun H => kDIn (.ref p) (.int i) H Q) P (fun H => Q (.bl (valV kvs (.inl i)).isSome) H) := ⟨fun k H h => r_kDInI (s.sees H h) (k H h)⟩
instance sp_dninI [s : Sees P p (.dK kvs)] : Stp P (fun H => kDNotIn (.ref p) (.int i) H Q) P (fun H => Q (.bl (!(valV kvs (.inl i)).isSome)) H) := ⟨fun k H h => r_kDNotInI (s.sees H h) (k H h)⟩
theorem e_range1 {R : It → Hp → Prop} (h : -1000000 ≤ j ∧ j ≤ 1000000) (k : Ent P (fun H => R (Itr 0 j.toNat) H)) : Ent P (fun H => kIR1 [.int j] H R) := fun H s => r_kIR1 h (k H s)
theorem e_range2 {R : It → Hp → Prop} (h : (-1000000 ≤ i ∧ i ≤ 1000000) ∧ -1000000 ≤ j ∧ j ≤ 1000000) (k : Ent P (fun H => R (Itr i (j - i).toNat) H)) : Ent P (fun H => kIR2 [.int i, .int j] H R) := fun H s => r_kIR2 h (k H s)
/-- numbers in a list -/
theorem inV_ints : inV (.int i) (ns.map V.int) = decide (i ∈ ns) := by
  induction ns with
  | nil => rfl
  | cons n r ih =>
    have e : inV (.int i) (V.int n :: r.map V.int) = (eqV (.int n) (.int i) || inV (.int i) (r.map V.int)) := by
      unfold inV; rw [List.any_cons]
    have e2 : eqV (.int n) (.int i) = decide (i = n) := by
      by_cases q : i = n
      · subst q; simp [eqV]
      · have q' : ¬ n = i := fun z => q z.symm
        simp [eqV, q, q']
    rw [List.map_cons, e, ih, e2]
    by_cases q : i = n <;> simp [q]
theorem flat_ints : (ns.map V.int).all flatV = true := by
  rw [List.all_eq_true]
  intro x hx
  obtain ⟨n, _, rfl⟩ := List.mem_map.mp hx
  rfl
instance sp_inI [s : Sees P p (.lst (ns.map V.int))] : Stp P (fun H => rIn K false (.int i) (.ref p) H Q) P (fun H => Q (.bl (decide (i ∈ ns))) H) :=
  ⟨fun k H h => r_in (.inl (SqL.of (s.sees H h))) rfl flat_ints (by rw [inV_ints]; exact k H h)⟩
instance sp_ninI [s : Sees P p (.lst (ns.map V.int))] : Stp P (fun H => rIn K true (.int i) (.ref p) H Q) P (fun H => Q (.bl (!decide (i ∈ ns))) H) :=
  ⟨fun k H h => r_in (.inl (SqL.of (s.sees H h))) rfl flat_ints (by rw [inV_ints]; exact k H h)⟩
theorem e_mod (h : 0 < j) (k : Ent P (fun H => Q (.int (i % j)) H)) : Ent P (fun H => oMod (.int i) (.int j) H Q) := fun H s => r_mod h (k H s)
theorem e_div (h : CDivW i j) (k : Ent P (fun H => Q (.int (i / j)) H)) : Ent P (fun H => oDivW (.int i) (.int j) H Q) := fun H s => r_div h (k H s)
theorem e_mul (h : IntMulOk i j) (k : Ent P (fun H => Q (.int (i * j)) H)) : Ent P (fun H => oMul (.int i) (.int j) H Q) := fun H s => r_mul h (k H s)
/-! new things -/
theorem e_tup (h : xs.length ≤ 1000) (k : ∀ p, Ent (At (.ref p) (KTup xs) :: P) (fun H => Q (.ref p) H)) : Ent P (fun H => kTup xs H Q) :=
  fun H s => r_kTup h fun p np => k p _ (s.newK np ⟨p, rfl, upd_same⟩)
theorem e_lst (h : xs.length ≤ 1000) (k : ∀ p, Ent (At (.ref p) (LstX xs) :: P) (fun H => Q (.ref p) H)) : Ent P (fun H => kLst xs H Q) :=
  fun H s => r_kLst h fun p np => k p _ (s.new np ⟨p, rfl, upd_same⟩ fun _ e => by cases e)
instance sp_tup0 : Stp P (fun H => tTup0 σ H Q) P (fun H => ∀ p, H p = none → Q (.ref p) (upd H p (.tup []))) := ⟨fun e => e⟩
theorem e_tup0 (k : ∀ p, Ent (At (.ref p) (KTup []) :: P) (fun H => Q (.ref p) H)) : Ent P (fun H => tTup0 σ H Q) := fun H s p np => k p _ (s.newK np ⟨p, rfl, upd_same⟩)
theorem e_dnew (k : ∀ p, Ent (At (.ref p) (DctX []) :: P) (fun H => Q (.ref p) H)) : Ent P (fun H => tDNewK σ H Q) := fun H s p np => k p _ (s.new np ⟨p, rfl, upd_same⟩ fun _ e => by cases e)
theorem e_list [s : Sees P p (.lst xs)] (k : ∀ q, Ent (At (.ref q) (LstX xs) :: P) (fun H => Q (.ref q) H)) : Ent P (fun H => cLst K [.ref p] H Q) :=
  fun H h => r_listL (SqL.of (s.sees H h)) fun l nl => k l _ (h.new nl ⟨l, rfl, upd_same⟩ fun _ e => by cases e)
theorem e_listT [s : Sees P p (.tup xs)] (k : ∀ q, Ent (At (.ref q) (LstX xs) :: P) (fun H => Q (.ref q) H)) : Ent P (fun H => cLst K [.ref p] H Q) :=
  fun H h => r_listT (SqT.of (s.sees H h)) fun l nl => k l _ (h.new nl ⟨l, rfl, upd_same⟩ fun _ e => by cases e)
theorem e_tuple [s : Sees P p (.lst xs)] (k : ∀ q, Ent (At (.ref q) (KTup xs) :: P) (fun H => Q (.ref q) H)) : Ent P (fun H => cTup K [.ref p] H Q) :=
  fun H h => r_tupleL (SqL.of (s.sees H h)) fun l nl => k l _ (h.newK nl ⟨l, rfl, upd_same⟩)
theorem e_slL {lo hi : Option Int} [s : Sees P p (.lst xs)] (k : ∀ q, Ent (At (.ref q) (LstX (cutV xs lo hi)) :: P) (fun H => Q (.ref q) H)) : Ent P (fun H => rSlL K (.ref p) lo hi H Q) :=
  fun H h => r_slL (SqL.of (s.sees H h)) fun l nl => k l _ (h.new nl ⟨l, rfl, upd_same⟩ fun _ e => by cases e)
theorem e_cat [s : Sees P p (.lst xs)] [s2 : Sees P q (.lst ys)] (hz : xs.length + ys.length ≤ 100000) (k : ∀ l, Ent (At (.ref l) (LstX (xs ++ ys)) :: P) (fun H => Q (.ref l) H)) : Ent P (fun H => rCat (.ref p) (.ref q) H Q) :=
  fun H h => r_cat (s.sees H h) (s2.sees H h) hz fun l nl => k l _ (h.new nl ⟨l, rfl, upd_same⟩ fun _ e => by cases e)
theorem e_rep1 {n : Nat} [s : Sees P p (.lst [v])] (hn : n ≤ 100000) (k : ∀ l, Ent (At (.ref l) (LstX (List.replicate n v)) :: P) (fun H => Q (.ref l) H)) : Ent P (fun H => rRep (.ref p) (.int n) H Q) :=
  fun H h => r_rep1 (s.sees H h) hn fun l nl => k l _ (h.new nl ⟨l, rfl, upd_same⟩ fun _ e => by cases e)
/-! changes -/
theorem Sat.set {H : Hp} {o : HO} (s : Sat (At (.ref p) (Cel o) :: F) H) (o' : HO) (no : ∀ xs, o' ≠ .tup xs) : Sat (At (.ref p) (Cel o') :: F) (upd H p o') := by
  obtain ⟨k, h, s1, s2, ap, nt, ⟨q, e, hp⟩, cl⟩ := s.part
  cases e
  have nk : k p = none := (ap p).resolve_right (by rw [hp]; simp)
  refine cl [At (.ref p) (Cel o')] (upd H p o') k (upd hnil p o') (Same.refl _) (fun b u e => ?_) (fun b u e => ?_) (fun b => ?_) (noTup_one no) ⟨upd hnil p o', hnil, Same.refl _, same_nil, fun b => .inr rfl, ⟨p, rfl, upd_same⟩, trivial⟩ (fun b u e n => ?_) (fun b n => .inr (.inl n)) (fun b n => ?_)
  · exact upd_oth (s1 _ _ e) fun z => by rw [z, nk] at e; cases e
  · by_cases z : b = p
    · subst z; rw [upd_same] at e ⊢; exact e
    · rw [upd_ne z] at e; cases e
  · by_cases z : b = p
    · subst z; exact .inl nk
    · exact .inr (by rw [upd_ne z]; rfl)
  · exact upd_oth e fun z => by rw [z, hp] at n; cases n
  · by_cases z : b = p
    · subst z; exact .inl (by rw [hp]; simp)
    · rw [upd_ne z] at n; exact absurd rfl n
theorem e_set {Y : Hp → Prop} {o' : HO} (t : Take P (.ref p) (Cel o) F) (no : ∀ xs, o' ≠ .tup xs) (k : Ent (At (.ref p) (Cel o') :: F) Y) : Ent P (fun H => Y (upd H p o')) := fun H s => k _ ((s.imp t.tk).set o' no)
theorem e_append [t : Take P (.ref p) (LstX xs) F] (hz : xs.length < 100000) (k : Ent (At (.ref p) (LstX (xs ++ [v])) :: F) (fun H => Q .non H)) : Ent P (fun H => rAppend (.ref p) [v] H Q) :=
  fun H s => r_append (Sat.sees (F := F) (s.imp t.tk)) hz (e_set t (fun _ e => by cases e) k H s)
theorem e_clear [t : Take P (.ref p) (LstX xs) F] (k : Ent (At (.ref p) (LstX []) :: F) (fun H => Q .non H)) : Ent P (fun H => rClear (.ref p) [] H Q) :=
  fun H s => r_clear (Sat.sees (F := F) (s.imp t.tk)) (e_set t (fun _ e => by cases e) k H s)
theorem e_extend [t : Take P (.ref p) (LstX xs) F] [s2 : Sees P q (.lst ys)] (hz : xs.length + ys.length ≤ 100000) (k : Ent (At (.ref p) (LstX (xs ++ ys)) :: F) (fun H => Q .non H)) : Ent P (fun H => rExtend (.ref p) [.ref q] H Q) :=
  fun H s => r_extend (Sat.sees (F := F) (s.imp t.tk)) (s2.sees H s) hz (e_set t (fun _ e => by cases e) k H s)
theorem e_setL [t : Take P (.ref p) (LstX xs) F] (e : ixN xs.length i = some n) (k : Ent (At (.ref p) (LstX (xs.set n v)) :: F) R) : Ent P (fun H => rSetL (.ref p) (.int i) v H R) :=
  fun H s => r_setL (Sat.sees (F := F) (s.imp t.tk)) e (e_set t (fun _ e => by cases e) k H s)
theorem e_popAt [t : Take P (.ref p) (LstX xs) F] (hi : -1000000 ≤ i ∧ i ≤ 1000000) (e : seqIndex? i xs.length = some n) (hx : xs[n]? = some v) (k : Ent (At (.ref p) (LstX (xs.eraseIdx n)) :: F) (fun H => Q v H)) : Ent P (fun H => rPopAt (.ref p) [.int i] H Q) :=
  fun H s => ⟨p, xs, i, n, v, rfl, rfl, Sat.sees (F := F) (s.imp t.tk), by omega, by omega, e, hx, e_set t (fun _ e => by cases e) k H s⟩
theorem e_remove [t : Take P (.ref p) (LstX (ns.map V.int)) F] (h : i ∈ ns) (k : Ent (At (.ref p) (LstX ((ns.erase i).map V.int)) :: F) (fun H => Q .non H)) : Ent P (fun H => rRemI (.ref p) [.int i] H Q) := fun H s => by
  obtain ⟨j, h1, h2, h3⟩ := first_idx h
  exact ⟨p, ns, i, j, rfl, rfl, Sat.sees (F := F) (s.imp t.tk), h1, h2, by rw [h3]; exact e_set t (fun _ e => by cases e) k H s⟩
theorem e_dputI [t : Take P (.ref p) (DctX kvs) F] (hl : kvs.length < 100000) (k : Ent (At (.ref p) (DctX (putK kvs (.inl i) v)) :: F) R) : Ent P (fun H => kDPut v (.ref p) (.int i) H R) :=
  fun H s => r_kDPutI (Sat.sees (F := F) (s.imp t.tk)) hl (e_set t (fun _ e => by cases e) k H s)
/-- known for good from now on -/
theorem e_frz [t : Take P (.ref p) (Cel o) F] {X : Hp → Prop} (k : Ent (At (.ref p) (Kel o) :: F) X) : Ent P X := fun H s => by
  refine k H ?_
  obtain ⟨g, h, s1, s2, ap, nt, ⟨q, e, hp⟩, cl⟩ := (s.imp t.tk).part
  cases e
  have nk : g p = none := (ap p).resolve_right (by rw [hp]; simp)
  refine cl [At (.ref p) (Kel o)] H (hor g (upd hnil p o)) hnil same_hor_l (hor_sub s1 fun b u e => ?_) same_nil (fun _ => .inr rfl) noTup_nil ⟨hnil, hnil, Same.refl _, Same.refl _, apart_nil, ⟨p, rfl, by rw [hor_r nk, upd_same]⟩, trivial⟩ (fun b u e n => e) (fun b n => ?_) (fun b n => absurd rfl n)
  · by_cases z : b = p
    · subst z; rw [upd_same] at e; rw [← e]; exact s2 _ _ hp
    · rw [upd_ne z] at e; cases e
  · by_cases z : b = p
    · subst z; exact .inl (by rw [hp]; simp)
    · refine .inr (.inl fun y => n ?_)
      rw [hor_r y, upd_ne z]; rfl
end
/-! ### slots left free -/
class SetO (σ : St) (n : Nat) (τ : outParam St) : Prop where
  eq : σ.set n none = τ
instance seto_0 {o : Option V} {σ : St} : SetO (o :: σ) 0 (none :: σ) := ⟨rfl⟩
instance seto_s {o : Option V} {σ τ : St} {n : Nat} [h : SetO σ n τ] : SetO (o :: σ) (n + 1) (o :: τ) := ⟨by rw [List.set_cons_succ, h.eq]⟩
class Wip (σ : St) (own : List (Str × Nat)) (τ : outParam St) : Prop where
  eq : wipe σ (own.map (·.2)) = τ
instance wip_nil {σ : St} : Wip σ [] σ := ⟨rfl⟩
instance wip_cons {σ τ τ' : St} {y : Str} {n : Nat} {r : List (Str × Nat)} [h : Wip σ r τ] [k : SetO τ n τ'] : Wip σ ((y, n) :: r) τ' := ⟨by
  rw [List.map_cons]
  show (wipe σ (r.map (·.2))).set n none = τ'
  rw [h.eq, k.eq]⟩
/-! ### loops -/
section
variable {P P' F : List As} {K : PySem.W.Frag} {σ : St} {Q : VK} {D : Ends} {a p : Addr} {xs ys : List V} {n : Nat} {g : TG} {tb : TS} {J : It}
/-- what holds at a turn -/
inductive nxJ (I : Nat → St → List As → Prop) (i : Nat) (σ : St) (H : Hp) : Prop
  | mk (P : List As) (h : I i σ P) (s : Sat P H) : nxJ I i σ H
theorem e_nx {I : Nat → St → List As → Prop} {i : Nat} {σ : St} (h : ∃ P', I i σ P' ∧ Imp P P') : Ent P (fun H => nxJ I i σ H) := fun H s => by
  obtain ⟨P', h, m⟩ := h
  exact ⟨P', h, s.imp m.imp⟩
theorem e_for {G : Hp → Prop} {Y : Nat → Hp → V → Hp → Prop} (w : Walk J n G Y) (I : Nat → St → List As → Prop) (h0 : I 0 σ P) (hG : ∀ i σ P, i ≤ n → I i σ P → ∀ H, Sat P H → G H)
    (hs : ∀ i σ P, i < n → I i σ P → ∀ x H H', Sat P H → Y i H x H' → g x σ H' fun σ2 H2 => tb { D with nx := nxJ I (i + 1), ct := nxJ I (i + 1), bk := D.nx } σ2 H2)
    (hd : ∀ σ P, I n σ P → Ent P (fun H => D.nx σ H)) : Ent P (fun H => kFor J g tb D σ H) := fun H s =>
  w_for w (nxJ I) ⟨P, h0, s⟩ (fun i σ H hi ⟨P, q, s⟩ => hG i σ P hi q H s) (fun i x σ H H' hi ⟨P, q, s⟩ y => hs i σ P hi q x H H' s y) fun σ H ⟨P, q, s⟩ => hd σ P q H s
theorem e_forL (xs : List V) (I : Nat → St → List As → Prop) {P0 : List As} (h0 : I 0 σ P0) [m0 : Imp P P0] (hG : ∀ i σ P, I i σ P → ∀ H, Sat P H → H p = some (.lst xs))
    (hs : ∀ i x σ P, xs[i]? = some x → I i σ P → Ent P (fun H => g x σ H fun σ2 H2 => tb { D with nx := nxJ I (i + 1), ct := nxJ I (i + 1), bk := D.nx } σ2 H2))
    (hd : ∀ σ P, I xs.length σ P → Ent P (fun H => D.nx σ H)) : Ent P (fun H => kFor (Itl K p) g tb D σ H) :=
  Ent.to (Q := P0) <| e_for (walk_list (K := K) (a := p) (xs := xs)) I h0 (fun i σ P _ q H s => SqL.of (hG i σ P q H s)) (fun i σ P hi q x H H' s y => by obtain ⟨rfl, e⟩ := y; exact hs i x σ P e q _ s) hd
theorem e_forT (xs : List V) (I : Nat → St → List As → Prop) {P0 : List As} (h0 : I 0 σ P0) [m0 : Imp P P0] (hG : ∀ i σ P, I i σ P → ∀ H, Sat P H → H p = some (.tup xs))
    (hs : ∀ i x σ P, xs[i]? = some x → I i σ P → Ent P (fun H => g x σ H fun σ2 H2 => tb { D with nx := nxJ I (i + 1), ct := nxJ I (i + 1), bk := D.nx } σ2 H2))
    (hd : ∀ σ P, I xs.length σ P → Ent P (fun H => D.nx σ H)) : Ent P (fun H => kFor (Itt K p) g tb D σ H) :=
  Ent.to (Q := P0) <| e_for (walk_tup (K := K) (a := p) (xs := xs)) I h0 (fun i σ P _ q H s => SqT.of (hG i σ P q H s)) (fun i σ P hi q x H H' s y => by obtain ⟨rfl, e⟩ := y; exact hs i x σ P e q _ s) hd
theorem e_forR {lo : Int} {n : Nat} (I : Nat → St → List As → Prop) {P0 : List As} (h0 : I 0 σ P0) [m0 : Imp P P0]
    (hs : ∀ i σ P, i < n → I i σ P → Ent P (fun H => g (.int (lo + (i : Nat))) σ H fun σ2 H2 => tb { D with nx := nxJ I (i + 1), ct := nxJ I (i + 1), bk := D.nx } σ2 H2))
    (hd : ∀ σ P, I n σ P → Ent P (fun H => D.nx σ H)) : Ent P (fun H => kFor (Itr lo n) g tb D σ H) :=
  Ent.to (Q := P0) <| e_for (walk_range (lo := lo) (n := n)) I h0 (fun _ _ _ _ _ _ _ => trivial) (fun i σ P hi q x H H' s y => by obtain ⟨rfl, rfl⟩ := y; exact hs i σ P hi q _ s) hd
theorem e_forR0 {n : Nat} (I : Nat → St → List As → Prop) {P0 : List As} (h0 : I 0 σ P0) [m0 : Imp P P0]
    (hs : ∀ (i : Nat) σ P, i < n → I i σ P → Ent P (fun H => g (.int (i : Nat)) σ H fun σ2 H2 => tb { D with nx := nxJ I (i + 1), ct := nxJ I (i + 1), bk := D.nx } σ2 H2))
    (hd : ∀ σ P, I n σ P → Ent P (fun H => D.nx σ H)) : Ent P (fun H => kFor (Itr 0 n) g tb D σ H) :=
  e_forR (P := P) (P0 := P0) I h0 (fun i σ P hi q => by rw [Int.zero_add]; exact hs i σ P hi q) hd
theorem e_nxL {N : St → Hp → Prop} {r : VK} {b c : St → Hp → Prop} (e : Ent P (fun H => N σ H)) : Ent P (fun H => Ends.nx { nx := N, rt := r, bk := b, ct := c } σ H) := e
/-- what stands between two statements -/
theorem e_cut {t1 t2 : TS} (I : St → List As → Prop) (h2 : ∀ σ P, I σ P → Ent P (fun H => t2 D σ H))
    (h1 : ∀ N : St → Hp → Prop, (∀ σ P, I σ P → Ent P (fun H => N σ H)) → Ent P (fun H => t1 { D with nx := N } σ H)) : Ent P (fun H => tSeq t1 t2 D σ H) := h1 (t2 D) h2
/-! comprehensions -/
/-- a turn's end: the list at D is acc, the rest as told -/
inductive nxC (D : Addr) (I : List V → List As → Prop) (H : Hp) : Prop
  | mk (acc : List V) (P : List As) (h : I acc P) (s : Sat (At (.ref D) (LstX acc) :: P) H) : nxC D I H
/-- the list at D gets y -/
def puC (D : Addr) (I : List V → List As → Prop) : VK := fun y H4 => ∃ acc, H4 D = some (.lst acc) ∧ acc.length < sizeLine ∧ nxC D I (upd H4 D (.lst (acc ++ [y])))
theorem e_pu {I : List V → List As → Prop} {y : V} {acc : List V} (P' : List As) (t : Take P (.ref a) (LstX acc) F) (hz : acc.length < 100000) (h : I (acc ++ [y]) P') [m : Imp F P'] : Ent P (fun H => puC a I y H) := fun H s =>
  ⟨acc, Sat.sees (F := F) (s.imp t.tk), Nat.lt_of_lt_of_le hz (by decide), acc ++ [y], P', h, ((s.imp t.tk).set _ (fun _ e => by cases e)).imp fun _ _ z => SatL.cons m.imp z⟩
theorem e_no {I : List V → List As → Prop} {acc : List V} (P' : List As) (t : Take P (.ref a) (LstX acc) F) (h : I acc P') [m : Imp F P'] : Ent P (fun H => nxC a I H) := fun H s =>
  ⟨acc, P', h, (s.imp t.tk).imp fun _ _ z => SatL.cons m.imp z⟩
theorem e_lc {G : Hp → Prop} {Y : Nat → Hp → V → Hp → Prop} {tt : TT} {te : TE} {vs : List Nat} {σ0 : St} (w : Walk J n G Y) (hw : wipe σ vs = σ0) (I : Nat → List V → List As → Prop) (h0 : I 0 [] P) (hG : ∀ i acc P, i ≤ n → I i acc P → ∀ H, Sat P H → G H)
    (hs : ∀ D i acc P, i < n → I i acc P → ∀ x H H', Sat (At (.ref D) (LstX acc) :: P) H → Y i H x H' → g x σ0 H' fun σ2 H2 => wipe σ2 vs = σ0 ∧ tt σ2 H2 fun b H3 => kIf b (te σ2 H3 (puC D (I (i + 1)))) (nxC D (I (i + 1)) H3))
    (hd : ∀ D acc P, I n acc P → Ent (At (.ref D) (LstX acc) :: P) (fun H => Q (.ref D) H)) : Ent P (fun H => kLc J g tt te vs σ Q H) := by
  subst hw
  intro H s D hD
  refine ⟨fun i m H => m = n - i ∧ i ≤ n ∧ nxC D (I i) H, ⟨n, by simp, Nat.zero_le _, [], P, h0, s.new hD ⟨D, rfl, upd_same⟩ fun _ e => by cases e⟩, ?_⟩
  rintro i m H ⟨rfl, hi, acc, P', p, s'⟩
  have q := hG i acc P' hi p H (s'.imp fun _ _ z => z.tail)
  by_cases hlt : i < n
  · refine .inr ⟨w.goes i H hlt q, nxC D (I (i + 1)), fun H' p' => ⟨n - (i + 1), by omega, rfl, hlt, p'⟩, fun x H' y => hs D i acc P' hlt p x H H' s' (w.yields i H x H' hlt q y)⟩
  · have e : i = n := by omega
    subst e
    exact .inl ⟨w.stops H q, hd D acc P' p H s'⟩
theorem e_lcL {tt : TT} {te : TE} {vs : List Nat} {σ0 : St} (xs : List V) (hw : wipe σ vs = σ0) (I : Nat → List V → List As → Prop) (h0 : I 0 [] P) (hG : ∀ i acc P, I i acc P → ∀ H, Sat P H → H p = some (.lst xs))
    (hs : ∀ D i x acc P, xs[i]? = some x → I i acc P → Ent (At (.ref D) (LstX acc) :: P) (fun H => g x σ0 H fun σ2 H2 => wipe σ2 vs = σ0 ∧ tt σ2 H2 fun b H3 => kIf b (te σ2 H3 (puC D (I (i + 1)))) (nxC D (I (i + 1)) H3)))
    (hd : ∀ D acc P, I xs.length acc P → Ent (At (.ref D) (LstX acc) :: P) (fun H => Q (.ref D) H)) : Ent P (fun H => kLc (Itl K p) g tt te vs σ Q H) :=
  e_lc (walk_list (K := K) (a := p) (xs := xs)) hw I h0 (fun i acc P _ q H s => SqL.of (hG i acc P q H s)) (fun D i acc P hi q x H H' s y => by obtain ⟨rfl, e⟩ := y; exact hs D i x acc P e q _ s) hd
theorem e_lcT {tt : TT} {te : TE} {vs : List Nat} {σ0 : St} (xs : List V) (hw : wipe σ vs = σ0) (I : Nat → List V → List As → Prop) (h0 : I 0 [] P) (hG : ∀ i acc P, I i acc P → ∀ H, Sat P H → H p = some (.tup xs))
    (hs : ∀ D i x acc P, xs[i]? = some x → I i acc P → Ent (At (.ref D) (LstX acc) :: P) (fun H => g x σ0 H fun σ2 H2 => wipe σ2 vs = σ0 ∧ tt σ2 H2 fun b H3 => kIf b (te σ2 H3 (puC D (I (i + 1)))) (nxC D (I (i + 1)) H3)))
    (hd : ∀ D acc P, I xs.length acc P → Ent (At (.ref D) (LstX acc) :: P) (fun H => Q (.ref D) H)) : Ent P (fun H => kLc (Itt K p) g tt te vs σ Q H) :=
  e_lc (walk_tup (K := K) (a := p) (xs := xs)) hw I h0 (fun i acc P _ q H s => SqT.of (hG i acc P q H s)) (fun D i acc P hi q x H H' s y => by obtain ⟨rfl, e⟩ := y; exact hs D i x acc P e q _ s) hd
theorem e_lcR0 {tt : TT} {te : TE} {vs : List Nat} {σ0 : St} {n : Nat} (hw : wipe σ vs = σ0) (I : Nat → List V → List As → Prop) (h0 : I 0 [] P)
    (hs : ∀ D (i : Nat) acc P, i < n → I i acc P → Ent (At (.ref D) (LstX acc) :: P) (fun H => g (.int (i : Nat)) σ0 H fun σ2 H2 => wipe σ2 vs = σ0 ∧ tt σ2 H2 fun b H3 => kIf b (te σ2 H3 (puC D (I (i + 1)))) (nxC D (I (i + 1)) H3)))
    (hd : ∀ D acc P, I n acc P → Ent (At (.ref D) (LstX acc) :: P) (fun H => Q (.ref D) H)) : Ent P (fun H => kLc (Itr 0 n) g tt te vs σ Q H) :=
  e_lc (walk_range (lo := 0) (n := n)) hw I h0 (fun _ _ _ _ _ _ _ => trivial) (fun D i acc P hi q x H H' s y => by obtain ⟨rfl, rfl⟩ := y; dsimp only; rw [Int.zero_add]; exact hs D i acc P hi q _ s) hd
theorem e_and {X : Prop} {Y : Hp → Prop} (h : X) (k : Ent P Y) : Ent P (fun H => X ∧ Y H) := fun H s => ⟨h, k H s⟩
end
end Qn

/-! X1: lambdas as values: made, kept in lists, called elsewhere; the cells of their maker. -/
namespace Qn
open PySem PySem.Spec PySem.Calls PyProof.Rows L2
/-- an object that stands as it is -/
abbrev Fz (o : Obj) : HO := .frz o (.ext fun _ => True)
theorem fz_ok {P : Program} {w : World} {H : Hp} {h : Heap} {a : Addr} {o : Obj} (e : h.get? a = some o) : ObjOk P w H h a (Fz o) := ⟨e, trivial, ⟨o, e⟩, fun _ _ _ _ => trivial⟩
theorem fz_at {P : Program} {w : World} {H : Hp} {h : Heap} {a : Addr} {o : Obj} (k : HOk P w H h) (e : H a = some (Fz o)) : h.get? a = some o := (k a _ e).1
/-! ### the cells of a frame -/
def OsFor (cl : List (Str × Addr)) (os : List (Addr × Obj)) : Prop := (∀ y c, cl.lookup y = some c → ∃ o, os.lookup c = some o) ∧ ∀ b o, os.lookup b = some o → ∃ v, o.data = .cell v
def CelV (cl : List (Str × Addr)) (os : List (Addr × Obj)) (y : Str) (v : V) : Prop := ∃ c o u, cl.lookup y = some c ∧ os.lookup c = some o ∧ o.data = .cell (some u) ∧ RelV v u
def plusC (os : List (Addr × Obj)) (H : Hp) : Hp := fun b => match os.lookup b with
  | some o => some (Fz o)
  | none => H b
def cutC (os : List (Addr × Obj)) (H : Hp) : Hp := fun b => match os.lookup b with
  | some _ => none
  | none => H b
section
variable {os : List (Addr × Obj)} {H H' : Hp} {b : Addr} {o : Obj} {u : HO}
theorem plus_in (e : os.lookup b = some o) : plusC os H b = some (Fz o) := by unfold plusC; rw [e]
theorem plus_out (e : os.lookup b = none) : plusC os H b = H b := by unfold plusC; rw [e]
theorem cut_in (e : os.lookup b = some o) : cutC os H b = none := by unfold cutC; rw [e]
theorem cut_out (e : os.lookup b = none) : cutC os H b = H b := by unfold cutC; rw [e]
end
/-- all of os stands in H -/
def OsIn (os : List (Addr × Obj)) (H : Hp) : Prop := ∀ b o, os.lookup b = some o → H b = some (Fz o)
def OsOut (os : List (Addr × Obj)) (H : Hp) : Prop := ∀ b o, os.lookup b = some o → H b = none
section
variable {P : Program} {w : World} {os : List (Addr × Obj)} {H H' : Hp} {h h' : Heap} {fs : List Addr}
theorem hok_cut (k : HOk P w H h) (i : OsIn os H) : HOk P w (cutC os H) h := fun b u e => by
  cases z : os.lookup b with
  | some o => rw [cut_in z] at e; cases e
  | none =>
    rw [cut_out z] at e
    refine (k b u e).stay (fun c v _ q => q) (fun c q => ?_) fun c xs q => ?_
    · cases y : os.lookup c with
      | some o => rw [i c o y] at q; cases q
      | none => rw [cut_out y]; exact q
    · cases y : os.lookup c with
      | some o => rw [i c o y] at q; cases q
      | none => rw [cut_out y]; exact q
theorem hok_plus (k : HOk P w H h) (i : OsOut os H) (s : ∀ b o, os.lookup b = some o → h.get? b = some o) : HOk P w (plusC os H) h := fun b u e => by
  cases z : os.lookup b with
  | some o => rw [plus_in z] at e; cases e; exact fz_ok (s b o z)
  | none =>
    rw [plus_out z] at e
    refine (k b u e).stay (fun c v _ q => q) (fun c q => ?_) fun c xs q => ?_
    · cases y : os.lookup c with
      | some o => rw [i c o y] at q; cases q
      | none => rw [plus_out y]; exact q
    · cases y : os.lookup c with
      | some o => rw [i c o y] at q; cases q
      | none => rw [plus_out y]; exact q
/-- behind a call for which cells were told -/
theorem un_cut (un : Un fs [] (plusC os H) H' h h') (i : OsOut os H) (s : ∀ b o, os.lookup b = some o → h.get? b = some o ∧ h'.get? b = some o) : Un fs [] H (cutC os H') h h' := by
  refine ⟨fun b o e n hb hx => ?_, fun b o e n hb hx => ?_, fun b o e n hx => ?_, fun b o e hx => un.there b o e hx, fun b xs e => ?_, fun b o v e => ?_, fun b ps e => ?_⟩
  · cases z : os.lookup b with
    | some q =>
      obtain ⟨h1, h2⟩ := s b q z
      rw [h1] at e; cases e; exact h2
    | none => exact un.keep b o e ((plus_out z).trans n) hb hx
  · cases z : os.lookup b with
    | some q =>
      obtain ⟨h1, h2⟩ := s b q z
      rw [h1] at e; cases e; exact ⟨o.slots, h2⟩
    | none => exact un.slot b o e ((plus_out z).trans n) hb hx
  · cases z : os.lookup b with
    | some q => exact cut_in z
    | none => rw [cut_out z]; exact un.free b o e ((plus_out z).trans n) hx
  · cases z : os.lookup b with
    | some q => rw [i b q z] at e; cases e
    | none => rw [cut_out z]; exact un.tups b xs ((plus_out z).trans e)
  · cases z : os.lookup b with
    | some q => rw [i b q z] at e; cases e
    | none => rw [cut_out z]; exact un.frzs b o v ((plus_out z).trans e)
  · cases z : os.lookup b with
    | some q => rw [i b q z] at e; cases e
    | none => rw [cut_out z]; exact un.tbls b ps ((plus_out z).trans e)
/-- behind a call for which cells were hidden -/
theorem un_plus (un : Un fs [] (cutC os H) H' h h') (i : OsIn os H) (n : OsOut os H') : Un fs [] H (plusC os H') h h' := by
  have nl : ∀ b, H b = none → os.lookup b = none := fun b e => by
    cases z : os.lookup b with
    | some q => rw [i b q z] at e; cases e
    | none => rfl
  refine ⟨fun b o e n hb hx => ?_, fun b o e n hb hx => ?_, fun b o e n hx => ?_, fun b o e hx => un.there b o e hx, fun b xs e => ?_, fun b o v e => ?_, fun b ps e => ?_⟩
  · exact un.keep b o e ((cut_out (nl b n)).trans n) hb hx
  · exact un.slot b o e ((cut_out (nl b n)).trans n) hb hx
  · rw [plus_out (nl b n)]; exact un.free b o e ((cut_out (nl b n)).trans n) hx
  · cases z : os.lookup b with
    | some q => rw [i b q z] at e; cases e
    | none => rw [plus_out z]; exact un.tups b xs ((cut_out z).trans e)
  · cases z : os.lookup b with
    | some q =>
      rw [i b q z] at e
      cases e
      exact plus_in z
    | none => rw [plus_out z]; exact un.frzs b o v ((cut_out z).trans e)
  · cases z : os.lookup b with
    | some q => rw [i b q z] at e; cases e
    | none => rw [plus_out z]; exact un.tbls b ps ((cut_out z).trans e)
end
/-! ### a call of a def for which the frame's cells are told -/
/-- the cells of a frame, each with its object, as they stand -/
def osOf (cl : List (Str × Addr)) (h : Heap) : List (Addr × Obj) := cl.filterMap fun p => (h.get? p.2).map fun o => (p.2, o)
theorem osOf_none {h : Heap} {y : Str} {c : Addr} {r : List (Str × Addr)} (z : h.get? c = none) : osOf ((y, c) :: r) h = osOf r h := by
  unfold osOf
  rw [List.filterMap_cons, z]
  rfl
theorem osOf_some {h : Heap} {y : Str} {c : Addr} {q : Obj} {r : List (Str × Addr)} (z : h.get? c = some q) : osOf ((y, c) :: r) h = (c, q) :: osOf r h := by
  unfold osOf
  rw [List.filterMap_cons, z]
  rfl
theorem osOf_at {h : Heap} {cl : List (Str × Addr)} {b : Addr} {o : Obj} (e : (osOf cl h).lookup b = some o) : h.get? b = some o ∧ ∃ y, (y, b) ∈ cl := by
  induction cl with
  | nil => exact absurd e (by unfold osOf; simp)
  | cons p r ih =>
    obtain ⟨y, c⟩ := p
    cases z : h.get? c with
    | none =>
      rw [osOf_none z] at e
      obtain ⟨h1, y', h2⟩ := ih e
      exact ⟨h1, y', List.mem_cons_of_mem _ h2⟩
    | some q =>
      rw [osOf_some z, List.lookup_cons] at e
      cases hb : b == c with
      | true =>
        rw [hb] at e
        have e1 : q = o := Option.some.inj e
        have e2 := beq_iff_eq.mp hb
        rw [e2, ← e1]
        exact ⟨z, y, List.mem_cons_self⟩
      | false =>
        rw [hb] at e
        obtain ⟨h1, y', h2⟩ := ih e
        exact ⟨h1, y', List.mem_cons_of_mem _ h2⟩
theorem osOf_has {h : Heap} {cl : List (Str × Addr)} {y : Str} {b : Addr} {o : Obj} (m : (y, b) ∈ cl) (e : h.get? b = some o) : (osOf cl h).lookup b = some o := by
  induction cl with
  | nil => exact absurd m (by simp)
  | cons p r ih =>
    obtain ⟨y', c⟩ := p
    cases hb : b == c with
    | true =>
      have e2 := beq_iff_eq.mp hb
      rw [e2] at e
      rw [osOf_some e, List.lookup_cons, hb]
    | false =>
      have m' : (y, b) ∈ r := by
        rcases List.mem_cons.mp m with z | z
        · have := (Prod.mk.inj z).2
          rw [this] at hb
          simp at hb
        · exact z
      cases z : h.get? c with
      | none => rw [osOf_none z]; exact ih m'
      | some q => rw [osOf_some z, List.lookup_cons, hb]; exact ih m'
/-- every entry of the frame's cells is found by its name -/
def ClOk (cl : List (Str × Addr)) : Prop := ∀ y c, (y, c) ∈ cl → cl.lookup y = some c
section
variable {X : Cx} {pins : List (Addr × Obj)} {σ : L2.St} {H : Hp} {s : Shared}
theorem cell_out (I : L2.Inv X pins σ H s) (hfn : ∀ y, X.fn y = true) {y : Str} {c : Addr} (e : X.env.cells.lookup y = some c) : c ∉ frs X.stack ∧ X.base.get? c = none ∧ H c = none := by
  have h1 := I.ok.cab y c (hfn y) e
  refine ⟨fun hm => ?_, ?_, I.freeC y c e⟩
  · rcases List.mem_cons.mp (I.stkSub c hm) with z | z
    · exact I.cne y c e z
    · obtain ⟨_, o, ho, _⟩ := I.ok.funs.mem z
      exact absurd (Nat.lt_of_lt_of_le (Heap.lt_size ho) h1) (Nat.lt_irrefl _)
  · cases z : X.base.get? c with
    | none => rfl
    | some o => exact absurd (Nat.lt_of_lt_of_le (Heap.lt_size z) (Nat.le_trans I.ok.bsz h1)) (Nat.lt_irrefl _)
def tCallC (X : Cx) (sp : Sp) (t : TA) : TE := fun σ H Q => t σ H fun vs H1 => ∀ os, OsFor X.env.cells os → (∀ (i : Nat) y v, X.N[i]? = some y → σ[i]? = some (some v) → X.env.scope.names.lookup y = some .cell → CelV X.env.cells os y v) → OsOut os H1 →
  sp vs (plusC os H1) (fun v H' => OsIn os H' → Q v (cutC os H')) (fun _ _ _ => False)
theorem run_fnC {k : Nat} {f : Addr} {fd : FuncData} {ps : List Str} {sp : Sp} {Q : VK} {us : List Value} {vs : List V} (F : FnOk X.prog X.w X.K X.mg X.base (fun _ _ _ _ _ _ => False) k f fd ps sp) (hr : Room k X.A) (hb : Binds X.K fd ps []) (hfn : ∀ y, X.fn y = true) (hcl : ClOk X.env.cells)
    (I : L2.Inv X pins σ H s) (r : Vals vs us) (h : ∀ os, OsFor X.env.cells os → (∀ (i : Nat) y v, X.N[i]? = some y → σ[i]? = some (some v) → X.env.scope.names.lookup y = some .cell → CelV X.env.cells os y v) → OsOut os H →
      sp vs (plusC os H) (fun v H' => OsIn os H' → Q v (cutC os H')) (fun _ _ _ => False)) : wpAny (model X.prog X.w) X.A (call (.ref f) us) (EP X pins σ Q) X.xe s := by
  obtain ⟨os, hos⟩ : ∃ os, os = osOf X.env.cells s.heap := ⟨_, rfl⟩
  have at_ : ∀ b o, os.lookup b = some o → s.heap.get? b = some o ∧ ∃ y, X.env.cells.lookup y = some b := fun b o e => by
    rw [hos] at e
    obtain ⟨h1, y, h2⟩ := osOf_at e
    exact ⟨h1, y, hcl y b h2⟩
  have out : OsOut os H := fun b o e => by
    obtain ⟨_, y, h2⟩ := at_ b o e
    exact I.freeC y b h2
  have nfr : ∀ b o, os.lookup b = some o → b ∉ frs X.stack := fun b o e => by
    obtain ⟨_, y, h2⟩ := at_ b o e
    exact (cell_out I hfn h2).1
  have osf : OsFor X.env.cells os := ⟨fun y c e => by
    obtain ⟨v, o, ho, hd⟩ := I.cell y c e
    exact ⟨o, by rw [hos]; exact osOf_has (PySem.mem_of_lookup e) ho⟩, fun b o e => by
    obtain ⟨h1, y, h2⟩ := at_ b o e
    obtain ⟨v, o', ho, hd⟩ := I.cell y b h2
    rw [h1] at ho
    exact ⟨v, by rw [Option.some.inj ho]; exact hd⟩⟩
  have cv : ∀ (i : Nat) y v, X.N[i]? = some y → σ[i]? = some (some v) → X.env.scope.names.lookup y = some .cell → CelV X.env.cells os y v := fun i y v e1 e2 e3 => by
    obtain ⟨m, hn, hl⟩ := I.loc
    obtain ⟨u, ru, q⟩ := hl i y v e1 e2 (.inr (.inl e3))
    rcases q with ⟨k', _⟩ | ⟨_, c, ec, o, ho, hd⟩
    · have k' : X.env.scope.names.lookup y = some .local := k'
      rw [e3] at k'; cases k'
    · exact ⟨c, o, u, ec, by rw [hos]; exact osOf_has (PySem.mem_of_lookup ec) ho, hd, ru⟩
  have h' := h os osf cv out
  have hl : us.length = ps.length := by rw [← r.length]; exact F.len _ _ _ _ h'
  have e0 : Env0 X.prog X.w X.K X.mg X.base X.A X.stack s (plusC os H) := by
    have e := I.env0
    refine ⟨e.frames, e.mod, fun b o eb => ⟨(e.bs b o eb).1, ?_⟩, e.bsz, e.funs, fun b hb => ?_, hok_plus e.hok out fun b o z => (at_ b o z).1, e.bare⟩
    · cases z : os.lookup b with
      | some q =>
        obtain ⟨_, y, h2⟩ := at_ b q z
        rw [(cell_out I hfn h2).2.1] at eb; cases eb
      | none => rw [plus_out z]; exact (e.bs b o eb).2
    · cases z : os.lookup b with
      | some q => exact absurd hb (nfr b q z)
      | none => rw [plus_out z]; exact e.frf b hb
  have hb' := hb s us I.kIn (by rw [List.append_nil]; exact hl)
  rw [List.append_nil] at hb'
  refine wpAny_call (codeAny_mono (F.run X.A X.stack s (plusC os H) ⟨us, []⟩ us vs _ _ hr e0 hb' r h') fun r s' hq => ?_)
  cases r with
  | error e => exact (show False from hq).elim
  | ok fl =>
    cases fl with
    | ret u =>
      obtain ⟨v, H', os', bare, un, hok, rv, q⟩ := hq
      have inn : OsIn os H' := fun b o z => un.frzs b o _ (plus_in z)
      refine I.after ⟨v, cutC os H', os', bare, un_cut un out fun b o z => ⟨(at_ b o z).1, fz_at hok (inn b o z)⟩, hok_cut hok inn, rv, q inn⟩
    | next => exact False.elim hq
    | brk => exact False.elim hq
    | cont => exact False.elim hq
end
end Qn

/-! X2: a lambda's making, its promise, its call. -/
namespace Qn
open PySem PySem.Spec PySem.Calls PyProof.Rows L2
/-! ### behind a raise for which cells were hidden -/
theorem cx_plus {P : Program} {w : World} {outer : List Env} {H : Hp} {s s' : Shared} {E : XK} {os : List (Addr × Obj)} {u : Value} (i : OsIn os H) (sh : ∀ b o, os.lookup b = some o → s.heap.get? b = some o ∧ b ∉ frs outer) (hc : ∀ b o, os.lookup b = some o → ∃ v, o.data = .cell v)
    (x : L2.CX P w outer (cutC os H) s (fun cls d H' => OsOut os H' → E cls d (plusC os H')) u s') : L2.CX P w outer H s E u s' := by
  obtain ⟨a, B, H', cls, d, hu, fl, hok, ub, na, hos, bare, e⟩ := x
  have inB : ∀ b o, os.lookup b = some o → B.get? b = some o := fun b o z => ub.keep b o (sh b o z).1 (cut_in z) (sh b o z).2
  have out : OsOut os H' := fun b o z => ub.free b o (sh b o z).1 (cut_in z)
  have nl : ∀ b, H b = none → os.lookup b = none := fun b e => by
    cases z : os.lookup b with
    | some q => rw [i b q z] at e; cases e
    | none => rfl
  refine ⟨a, B, plusC os H', cls, d, hu, fl, hok_plus hok out inB, ⟨fun b o e n hb => ?_, ub.slot, fun b o e n => ?_, ub.there, fun b xs e => ?_, fun b o v e => ?_, fun b ps e => ?_⟩, ?_, hos, bare, e out⟩
  · exact ub.keep b o e ((cut_out (nl b n)).trans n) hb
  · rw [plus_out (nl b n)]; exact ub.free b o e ((cut_out (nl b n)).trans n)
  · cases z : os.lookup b with
    | some q => rw [i b q z] at e; cases e
    | none => rw [plus_out z]; exact ub.tups b xs ((cut_out z).trans e)
  · cases z : os.lookup b with
    | some q =>
      rw [i b q z] at e
      cases e
      exact plus_in z
    | none => rw [plus_out z]; exact ub.frzs b o v ((cut_out z).trans e)
  · cases z : os.lookup b with
    | some q => rw [i b q z] at e; cases e
    | none => rw [plus_out z]; exact ub.tbls b ps ((cut_out z).trans e)
  · cases z : os.lookup a with
    | some q =>
      obtain ⟨v, hv⟩ := hc a q z
      obtain ⟨oe, vs, h1, _, h2⟩ := fl.there
      have h3 := fl.1 a q (inB a q z)
      rw [h1] at h3
      cases h3
      rw [h2] at hv
      cases hv
    | none => rw [plus_out z]; exact na
/-! ### the promise of a function that was made -/
structure LamOk (P : Program) (w : World) (K : PySem.W.Frag) (mg : Str → Option Value) (base : Heap) (n : Nat) (f : Addr) (L : List (Addr × Obj)) (sp : Hp → VK → XK → Prop) : Prop where
  fn : ∃ o fd, (f, o) ∈ L ∧ o = { cls := .type "function", data := .func fd }
  run : ∀ (A : Around) (outer : List Env) (s : Shared) (H : Hp) (Q : VK) (E : XK), Room n A → Env0 P w K mg base A outer s H → (∀ p ∈ L, H p.1 = some (Fz p.2)) → sp H Q E →
    codeAny (model P w) A (.call (.ref f) ⟨[], []⟩) (CR (L2.CX P w) outer P w H s Q E) s
/-- its body's reading, of the names it captured -/
def spLam (cl : List (Str × Addr)) (ys : List Str) (t : XK → TE) : Hp → VK → XK → Prop := fun H Q E => ∃ (os : List (Addr × Obj)) (vals : List V), OsFor cl os ∧ vals.length = ys.length ∧ (∀ (i : Nat) y v, ys[i]? = some y → vals[i]? = some v → CelV cl os y v) ∧ OsIn os H ∧
  t (fun cls d H' => OsOut os H' → E cls d (plusC os H')) (vals.map some) (cutC os H) fun v H' => OsOut os H' → Q v (plusC os H')
/-- names of a lambda: those of its parameters, captured ones, globals -/
structure LamS2 (sc scope : Scope) (ys : List Str) : Prop where
  kind : scope.kind = .function
  co : scope.isCoroutine = false
  gen : scope.isGenerator = false
  nocell : ∀ y ∈ scope.names, y.2 ≠ .cell
  free : ∀ y ∈ scope.names, y.2 = .free → sc.names.lookup y.1 = some .cell ∨ sc.names.lookup y.1 = some .free
  ysf : ∀ y ∈ ys, scope.names.lookup y = some .free
def lamSB2 (sc scope : Scope) (ys : List Str) : Bool :=
  decide (scope.kind = .function) && !scope.isCoroutine && !scope.isGenerator && (scope.names.all fun y => !decide (y.2 = .cell) && (!decide (y.2 = .free) || decide (sc.names.lookup y.1 = some .cell) || decide (sc.names.lookup y.1 = some .free))) && ys.all fun y => decide (scope.names.lookup y = some .free)
theorem lamS2_by {sc scope : Scope} {ys : List Str} (h : lamSB2 sc scope ys = true) : LamS2 sc scope ys := by
  unfold lamSB2 at h
  simp only [Bool.and_eq_true, Bool.or_eq_true, Bool.not_eq_true', decide_eq_true_eq, decide_eq_false_iff_not, List.all_eq_true] at h
  obtain ⟨⟨⟨⟨h1, h2⟩, h3⟩, h4⟩, h5⟩ := h
  refine ⟨h1, h2, h3, fun y hy => (h4 y hy).1, fun y hy e => ?_, fun y hy => h5 y hy⟩
  rcases (h4 y hy).2 with (z | z) | z
  · exact absurd e z
  · exact .inl z
  · exact .inr z
/-- the context of the body -/
def lamCxQ (P : Program) (w : World) (K : PySem.W.Frag) (mg : Str → Option Value) (base : Heap) (ys : List Str) (q : Str) (clo : List (Str × Addr)) (A : Around) (outer : List Env) (s : Shared) (H : Hp) (E : XK) (scope : Scope) (f c' : Addr) : Cx where
  prog := P
  w := w
  K := K
  mg := mg
  base := base
  A := A.deeper (PySem.W.envX q scope s.heap.objs.size f (.ref c') clo)
  N := ys
  s_0 := s
  H_0 := H
  env := PySem.W.envX q scope s.heap.objs.size f (.ref c') clo
  outer := outer
  stack := PySem.W.envX q scope s.heap.objs.size f (.ref c') clo :: outer
  ex := []
  fn := fun _ => false
  calm := true
  pn := []
  xe := fun e s' => wpAny (model P w) (A.deeper (PySem.W.envX q scope s.heap.objs.size f (.ref c') clo)) (leaving (PySem.W.envX q scope s.heap.objs.size f (.ref c') clo) e) (fun _ s'' => L2.CX P w outer H s E e s'') (fun e' s'' => L2.CX P w outer H s E e' s'') s'
section
variable {P : Program} {w : World} {K : PySem.W.Frag} {mg : Str → Option Value} {base : Heap} {cl clo : List (Str × Addr)} {sc scope : Scope} {ys : List Str} {q : Str} {f c' : Addr}
theorem lam_inv {A : Around} {outer : List Env} {s : Shared} {H : Hp} {E : XK} {os : List (Addr × Obj)} {vals : List V} {h₁ : Heap} {tk : Nat} {m : Str → Option Value} (L : LamS2 sc scope ys)
    (cm : ∀ y c, clo.lookup y = some c → cl.lookup y = some c) (inj : ∀ y z c, cl.lookup y = some c → cl.lookup z = some c → y = z) (has : ∀ y, scope.names.lookup y = some .free → ∃ c, clo.lookup y = some c)
    (e0 : Env0 P w K mg base A outer s H) (hd : A.handled = none) (osf : OsFor cl os) (hl : vals.length = ys.length) (cv : ∀ (i : Nat) y v, ys[i]? = some y → vals[i]? = some v → CelV cl os y v) (inn : OsIn os H)
    (hns : h₁.Ns s.heap.objs.size m) (kp : ∀ b o, s.heap.get? b = some o → h₁.get? b = some o) :
    L2.Inv (lamCxQ P w K mg base ys q clo A outer s (cutC os H) E scope f c') [] (vals.map some) (cutC os H) { s with heap := h₁, toks := tk } := by
  have noA : ∀ b : Addr, b ∉ (lamCxQ P w K mg base ys q clo A outer s (cutC os H) E scope f c').ex := fun b z => absurd (show b ∈ ([] : List Addr) from z) (by simp)
  have hokc := hok_cut e0.hok inn
  have cutn : ∀ b, H b = none → cutC os H b = none := fun b e => by
    cases z : os.lookup b with
    | some p => exact cut_in z
    | none => rw [cut_out z]; exact e
  refine ⟨⟨e0.mod, L.kind, rfl, rfl, Nat.le_refl _, fun y z c e1 e2 => inj y z c (cm y c e1) (cm z c e2), fun y hy => ?_, fun y c z _ => ?_, fun _ => hd, Around.frames_deeper e0.frames, .inr ⟨rfl, rfl⟩, fun b z => absurd z (noA b), fun b o e => ⟨(e0.bs b o e).1, cutn b (e0.bs b o e).2⟩, e0.bsz, fun b _ _ => noA b,
      fun b z => absurd z (noA b), e0.funs, fun b hb => cutn b (e0.frf b hb)⟩,
    rfl, e0.bare, Un.kept kp, ⟨_, hns, fun i y v e1 e2 e3 => ?_⟩, fun y c e => ?_, hokc.fresh (Nat.le_refl _), fun y c e => ?_, fun p hp => absurd (show p ∈ ([] : List (Addr × Obj)) ++ [] from hp) (by simp), hokc.kept kp, by rw [List.length_map]; exact hl⟩
  · have hy : scope.names.lookup y = some .cell ∨ scope.names.lookup y = some .free := hy
    rcases hy with hy | hy
    · exact absurd rfl (L.nocell _ (PySem.mem_of_lookup hy))
    · exact has y hy
  · have z : false = true := z
    cases z
  · have e1 : ys[i]? = some y := e1
    rw [List.getElem?_map] at e2
    obtain ⟨v', hv', e4⟩ := Option.map_eq_some_iff.mp e2
    cases e4
    obtain ⟨c, o, u, h1, h2, h3, h4⟩ := cv i y v e1 hv'
    have hyf := L.ysf y (List.mem_of_getElem? e1)
    obtain ⟨c2, hc2⟩ := has y hyf
    have ec : c2 = c := by
      have := cm y c2 hc2
      rw [h1] at this
      exact (Option.some.inj this).symm
    subst ec
    exact ⟨u, h4, .inr ⟨.inr hyf, c2, hc2, o, kp _ _ (fz_at e0.hok (inn _ _ h2)), h3⟩⟩
  · obtain ⟨o, ho⟩ := osf.1 y c (cm y c e)
    obtain ⟨v, hv⟩ := osf.2 c o ho
    exact ⟨v, o, kp _ _ (fz_at e0.hok (inn _ _ ho)), hv⟩
  · obtain ⟨o, ho⟩ := osf.1 y c (cm y c e)
    exact cut_in ho
/-- a function object that was made keeps its body's reading -/
theorem lam_ok {n : Nat} {t : XK → TE} {body : Expr} {fd : FuncData} {oc : Obj} {vs : Array Value} {tq : Tok} {dl : List (Addr × Obj)} {binds : List (Str × Value)} (L : LamS2 sc scope ys)
    (hfd : fd.scope = scope ∧ fd.body = .expr body ∧ fd.code = .ref c' ∧ fd.qualname = q ∧ fd.globals = mainGlobals ∧ fd.closure = clo ∧ fd.builtins = builtinsNs)
    (hoc : oc.data = .fields vs ∧ vs[1]? = some (.str q tq))
    (cm : ∀ y c, clo.lookup y = some c → cl.lookup y = some c) (inj : ∀ y z c, cl.lookup y = some c → cl.lookup z = some c → y = z) (has : ∀ y, scope.names.lookup y = some .free → ∃ c, clo.lookup y = some c)
    (hbind : ∀ s : Shared, (∀ p ∈ dl, s.heap.get? p.1 = some p.2) → BindsTo s fd ⟨[], []⟩ binds) (hloc : ∀ x ∈ binds, scope.names.lookup x.1 = some .local)
    (hbody : ∀ (A : Around) (outer : List Env) (s : Shared) (H : Hp) (E : XK), Room n (A.deeper (PySem.W.envX q scope s.heap.objs.size f (.ref c') clo)) → PE (lamCxQ P w K mg base ys q clo A outer s H E scope f c') body (t E)) :
    LamOk P w K mg base (n + 1) f ((f, { cls := .type "function", data := .func fd }) :: (c', oc) :: dl) (spLam cl ys t) := by
  refine ⟨⟨_, fd, List.mem_cons_self, rfl⟩, fun A outer s H Q E hr e0 hL hsp => ?_⟩
  obtain ⟨os, vals, osf, hl, cv, inn, ht⟩ := hsp
  obtain ⟨f1, f2, f3, f4, f5, f6, f7⟩ := hfd
  have hf := fz_at e0.hok (hL _ List.mem_cons_self)
  have hc := fz_at e0.hok (hL _ (List.mem_cons_of_mem _ List.mem_cons_self))
  have lim : s.heap.NoLimit := e0.mod.nolimit.keeps fun b o e => (e0.bs b o e).1
  refine PySem.W.kla_callFunE hr.depth hf rfl (by rw [f1]; exact L.co) (by rw [f1]; exact L.gen) f2 ⟨c', oc, vs, tq, f3, hc, hoc.1, by rw [f4]; exact hoc.2⟩ ?_
  refine hbind s (fun p hp => fz_at e0.hok (hL p (List.mem_cons_of_mem _ (List.mem_cons_of_mem _ hp)))) _ _ _ _ ?_
  rw [f1, f3, f4, f5, f6, f7]
  refine wpAny_newFunctionEnv L.nocell hloc (fun h₁ hns hsb => ⟨lim.fresh _ hsb, ?_⟩) L.kind
  show codeAny _ _ (.expr body (PySem.W.envX q scope s.heap.objs.size f (.ref c') clo)) _ _
  have kp : ∀ b o, s.heap.get? b = some o → h₁.get? b = some o := fun b o e => hsb.extBut b o (Nat.ne_of_lt (Heap.lt_size e)) (Heap.get?_push_of_some _ e)
  have J := lam_inv (q := q) (f := f) (c' := c') (E := fun cls d H' => OsOut os H' → E cls d (plusC os H')) (tk := s.toks + binds.length) L cm inj has e0 hr.hd osf hl cv inn hns kp
  have sh : ∀ b o, os.lookup b = some o → s.heap.get? b = some o ∧ b ∉ frs outer := fun b o z => ⟨fz_at e0.hok (inn b o z), fun hm => by
    have h1 := inn b o z
    rw [e0.frf b hm] at h1
    cases h1⟩
  refine PySem.W.kla_codeExpr (wpAny_mono ((hbody A outer s (cutC os H) _ (hr.deeper _)).run [] _ _ (cutC os H) _ J ht) (fun v s' hq => ?_) fun e s' hq => ?_)
  · obtain ⟨v', H', J', rv, qq⟩ := hq
    have un : Un (frs outer) [] (cutC os H) H' s.heap s'.heap := J'.base
    have out : OsOut os H' := fun b o z => un.free b o (sh b o z).1 (cut_in z) (by simp)
    refine ⟨v', plusC os H', J'.os, J'.bare, un_plus un inn out, hok_plus J'.hok out fun b o z => un.keep b o (sh b o z).1 (cut_in z) (sh b o z).2 (by simp), rv, qq out⟩
  · have hq : wpAny (model P w) (A.deeper (PySem.W.envX q scope s.heap.objs.size f (.ref c') clo)) (leaving (PySem.W.envX q scope s.heap.objs.size f (.ref c') clo) e) (fun _ s'' => L2.CX P w outer (cutC os H) s (fun cls d H' => OsOut os H' → E cls d (plusC os H')) e s'') (fun e' s'' => L2.CX P w outer (cutC os H) s (fun cls d H' => OsOut os H' → E cls d (plusC os H')) e' s'') s' := hq
    exact wpAny_mono hq (fun _ s'' x => cx_plus inn sh osf.2 x) fun e' s'' x => cx_plus inn sh osf.2 x
end
end Qn

/-! X3: the rule of a lambda as a value. -/
namespace Qn
open PySem PySem.Spec PySem.Calls PyProof.Rows L2
section
variable {X : Cx} {pins : List (Addr × Obj)} {σ : L2.St} {H : Hp} {s : Shared}
theorem inv_tab2 {P c : Addr} {oc : Obj} {ps more : Array Value} {h' : Heap} {t' : Nat} (I : L2.Inv X pins σ H s) (hP : H P = some (.tbl ps)) (k : ∀ b o, b ≠ P → s.heap.get? b = some o → h'.get? b = some o)
    (hm : h'.get? P = some { cls := .none, data := .fields (ps ++ more) }) (hc : s.heap.objs.size ≤ c) (ho : h'.get? c = some oc) :
    L2.Inv X pins σ (upd (upd H P (.tbl (ps ++ more))) c (Fz oc)) { s with heap := h', toks := t' } := by
  have nC : H c = none := I.hok.fresh hc
  have nPc : P ≠ c := ne_of_none hP nC
  have at_ : ∀ b, b ≠ P → b ≠ c → upd (upd H P (.tbl (ps ++ more))) c (Fz oc) b = H b := fun b h1 h2 => by rw [upd_ne h2, upd_ne h1]
  have atP : upd (upd H P (.tbl (ps ++ more))) c (Fz oc) P = some (.tbl (ps ++ more)) := by rw [upd_ne nPc, upd_same]
  have nP : ∀ b u, H b = some u → (∀ q, u ≠ .tbl q) → b ≠ P := fun b u e q z => by
    rw [z, hP] at e
    exact q ps (Option.some.inj e).symm
  have nN : ∀ b, H b = none → b ≠ P := fun b e z => by
    rw [z, hP] at e
    cases e
  have lt' : ∀ b o, s.heap.get? b = some o → b ≠ c := fun b o e z => by
    rw [z] at e
    exact Nat.lt_irrefl _ (Nat.lt_of_lt_of_le (Heap.lt_size e) hc)
  have sm : ∀ b u, H b = some u → b ≠ c := fun b u e => ne_of_none e nC
  refine I.step (g' := s.gens) (d' := s.drawn) (ch := []) (fun b hb => absurd hb (by simp)) (fun b o _ _ _ e n => k b o (nN b n) e) (fun b o _ _ _ e n => ⟨o.slots, k b o (nN b n) e⟩)
    (fun b o _ e n => by rw [at_ b (nN b n) (lt' b o e)]; exact n) (fun b o _ e => ?_) (fun b xs e => by rw [at_ b (nP b _ e (fun q z => by cases z)) (sm b _ e)]; exact e) (fun b o u e => by rw [at_ b (nP b _ e (fun q z => by cases z)) (sm b _ e)]; exact e) (fun b qs e => ?_) (fun m hn => ?_) (fun b u e => ?_) I.bare
  · by_cases hb : b = P
    · rw [hb]
      exact ⟨_, hm⟩
    · exact ⟨o, k b o hb e⟩
  · by_cases hb : b = P
    · rw [hb, hP] at e
      cases e
      rw [hb, atP]
      exact ⟨more, rfl⟩
    · rw [at_ b hb (sm b _ e), e]
      exact ⟨#[], by simp⟩
  · obtain ⟨ob, es, ep, ho, r⟩ := hn
    exact ⟨ob, es, ep, k _ ob (nN _ I.free) ho, r⟩
  · by_cases hb : b = c
    · rw [hb, upd_same] at e
      cases e
      rw [hb]
      exact fz_ok ho
    · by_cases hb2 : b = P
      · rw [hb2, atP] at e
        cases e
        rw [hb2]
        exact hm
      · rw [at_ b hb2 hb] at e
        refine (I.hok b u e).stay (fun d v hd q => k d v ?_ q) (fun d q => by rw [at_ d (nP d _ q (fun q z => by cases z)) (sm d _ q)]; exact q) fun d xs q => by rw [at_ d (nP d _ q (fun q z => by cases z)) (sm d _ q)]; exact q
        rcases hd with z | z
        · rw [z]
          exact hb2
        · exact nP d _ z (fun q z => by cases z)
end
/-- the code objects that a table tells -/
def TabOkK (q : Str) (ps : Array Value) (k : Hp) : Prop := ∀ (pos : Pos) (cv : Value), codeAmong pos ps.toList = some cv → ∃ (c : Addr) (oc : Obj) (vs : Array Value) (t : Tok), cv = .ref c ∧ k c = some (Fz oc) ∧ oc.data = .fields vs ∧ vs[1]? = some (.str q t)
theorem TabOkK.mono {q : Str} {ps : Array Value} {k k' : Hp} (s : Same k k') (h : TabOkK q ps k) : TabOkK q ps k' := fun pos cv e => by
  obtain ⟨c, oc, vs, t, h1, h2, h3, h4⟩ := h pos cv e
  exact ⟨c, oc, vs, t, h1, s _ _ h2, h3, h4⟩
/-- a code object's table -/
def TabX (Pt : Addr) (q : Str) : Ty := fun _ => ⟨fun k h => ∃ ps, h Pt = some (.tbl ps) ∧ TriplesOk ps.toList ∧ TabOkK q ps k, fun s ⟨ps, h1, h2, h3⟩ => ⟨ps, h1, h2, h3.mono s⟩⟩
def TabC (q : Str) (ps : Array Value) : Ty := fun _ => ⟨fun k _ => TabOkK q ps k, fun s h => h.mono s⟩
/-- objects that stand as they are -/
def FzL (dl : List (Addr × Obj)) : Ty := fun _ => ⟨fun k _ => ∀ p ∈ dl, k p.1 = some (Fz p.2), fun s h p hp => s _ _ (h p hp)⟩
/-- a function that was made -/
def LamX (P : Program) (w : World) (K : PySem.W.Frag) (mg : Str → Option Value) (base : Heap) (n : Nat) (sp : Hp → VK → XK → Prop) : Ty := fun v => ⟨fun k _ => ∃ (f : Addr) (L : List (Addr × Obj)), v = .ref f ∧ (∀ p ∈ L, k p.1 = some (Fz p.2)) ∧ LamOk P w K mg base n f L sp,
  fun s x => by
    obtain ⟨f, L, e, h1, h2⟩ := x
    exact ⟨f, L, e, fun p hp => s _ _ (h1 p hp), h2⟩⟩
instance pers_lam {P : Program} {w : World} {K : PySem.W.Frag} {mg : Str → Option Value} {base : Heap} {n : Nat} {sp : Hp → VK → XK → Prop} : Pers (LamX P w K mg base n sp) := ⟨fun _ _ _ x => x⟩
instance pers_fzl {dl : List (Addr × Obj)} : Pers (FzL dl) := ⟨fun _ _ _ x => x⟩
section
variable {X : Cx} {pins : List (Addr × Obj)} {σ : L2.St} {H : Hp} {s : Shared}
theorem clo_facts {scope : Scope} {ys : List Str} (ok : X.Ok) (L : LamS2 X.env.scope scope ys) :
    (∀ y ∈ scope.names, y.2 = .free → ∃ c, X.env.cells.lookup y.1 = some c) ∧ (∀ y c, (cloFrom X.env.cells scope.names []).lookup y = some c → X.env.cells.lookup y = some c) ∧ ∀ y, scope.names.lookup y = some .free → ∃ c, (cloFrom X.env.cells scope.names []).lookup y = some c := by
  have hfree : ∀ y ∈ scope.names, y.2 = .free → ∃ c, X.env.cells.lookup y.1 = some c := fun y hy e => by
    rcases L.free y hy e with k | k
    · exact ok.has _ (.inl k)
    · exact ok.has _ (.inr k)
  refine ⟨hfree, fun y c e => ?_, fun y hl => ?_⟩
  · rcases cloFrom_mem (PySem.mem_of_lookup e) with hm | ⟨h1, h2⟩
    · cases hm
    · obtain ⟨c1, hc⟩ := hfree _ h1 rfl
      have hc : X.env.cells.lookup y = some c1 := hc
      have e2 : c = c1 := by
        rw [h2, hc] <;> rfl
      rw [e2]
      exact hc
  · have hy : (y, NameKind.free) ∈ scope.names := PySem.mem_of_lookup hl
    exact L2.mem_lookup (cloFrom_has (cells := X.env.cells) (acc := []) hy)
theorem mk_tail {n : Nat} {c Pt : Addr} {params : Arguments} {body : Expr} {scope : Scope} {pos : Pos} {ys : List Str} {t : XK → TE} {dV : Value} {dl : List (Addr × Obj)} {binds : List (Str × Value)} {F : List As} {Q : VK} (I : L2.Inv X pins σ H s)
    (TB : LamX.TabB X.base X.mg c Pt) (hcode : X.env.code = .ref c) (L : LamS2 X.env.scope scope ys)
    (hbind : ∀ (clo : List (Str × Addr)) (pm cv ctv doc : Value) (s : Shared), (∀ p ∈ dl, s.heap.get? p.1 = some p.2) → BindsTo s (PySem.W.kdv_fn "<lambda>" (X.env.qual ++ "<lambda>") params (.expr body) scope clo dV doc pm cv ctv) ⟨[], []⟩ binds)
    (hloc : ∀ x ∈ binds, scope.names.lookup x.1 = some .local)
    (hbody : ∀ (f c' : Addr) (clo : List (Str × Addr)) (A : Around) (outer : List Env) (s : Shared) (H : Hp) (E : XK), Room n (A.deeper (PySem.W.envX (X.env.qual ++ "<lambda>") scope s.heap.objs.size f (.ref c') clo)) → PE (lamCxQ X.prog X.w X.K X.mg X.base ys (X.env.qual ++ "<lambda>") clo A outer s H E scope f c') body (t E))
    (sat : Sat (At (.int 60) (TabX Pt (X.env.qual ++ "<lambda>")) :: At (.int 61) (FzL dl) :: F) H)
    (hQ : ∀ f, Ent (At (.ref f) (LamX X.prog X.w X.K X.mg X.base (n + 1) (spLam X.env.cells ys t)) :: At (.int 60) (TabX Pt (X.env.qual ++ "<lambda>")) :: F) (fun H1 => Q (.ref f) H1)) :
    wpAny (model X.prog X.w) X.A (makeTail "<lambda>" (X.env.qual ++ "<lambda>") params (.expr body) scope X.env dV .none none pos pos.line) (EP X pins σ Q) X.xe s := by
  obtain ⟨q, hq⟩ : ∃ q, q = X.env.qual ++ "<lambda>" := ⟨_, rfl⟩
  obtain ⟨hfree, cm, has⟩ := clo_facts I.ok L
  have sat' := sat
  obtain ⟨k, h, s1, s2, ap, nt, h1, h2, t1, t2, y, ⟨ps, hp, tri, codes⟩, r⟩ := sat
  have hP : H Pt = some (.tbl ps) := s2 _ _ (t1 _ _ hp)
  have bP : s.heap.BuiltinsAt X.mg Pt := TB.bm.keeps I.bk
  have hP' : s.heap.get? Pt = some { cls := .none, data := .fields ps } := I.hok Pt _ hP
  have sA : Sat (At (.ref Pt) (Cel (.tbl ps)) :: At (.int 62) (TabC (X.env.qual ++ "<lambda>") ps) :: At (.int 61) (FzL dl) :: F) H := ⟨k, h, s1, s2, ap, nt, h1, h2, t1, t2, y, ⟨Pt, rfl, hp⟩, hnil, h2, same_nil, Same.refl _, apart_nil, codes, r⟩
  cases hc : codeAmong pos ps.toList with
  | none =>
    refine PySem.W.kdv_makeTail (mg := X.mg) (c := c) (P := Pt) (ps := ps) (closure_ok hfree) I.ok.glob (I.mod.glob.keeps I.bk) hcode (TB.code.keeps I.bk) hP' tri hc TB.gP bP fun c' ctv doc h' tk hx hge hlt hrec htb => ?_
    obtain ⟨c2, oc, vs, tq, e2, hoc, hd, hv⟩ := hrec
    cases e2
    have hsz : s.heap.objs.size ≤ h'.objs.size := Nat.le_trans hge (Nat.le_of_lt hlt)
    have nC : H c' = none := I.hok.fresh hge
    have I1 := inv_tab2 (t' := tk) (more := #[rawInt pos.line, rawInt pos.col, .ref c']) (h' := h') I hP (fun b o hb e => hx b o hb e) htb hge hoc
    have kp : ∀ (fo : Obj) b o, h'.get? b = some o → (h'.push fo).get? b = some o := fun fo b o e => Heap.get?_push_of_some _ e
    have fr : upd (upd H Pt (.tbl (ps ++ #[rawInt pos.line, rawInt pos.col, .ref c']))) c' (Fz oc) h'.objs.size = none := I1.hok.fresh (Nat.le_refl _)
    refine ⟨.ref h'.objs.size, upd (upd (upd H Pt (.tbl (ps ++ #[rawInt pos.line, rawInt pos.col, .ref c']))) c' (Fz oc)) h'.objs.size (Fz (PySem.W.kdv_obj "<lambda>" (X.env.qual ++ "<lambda>") params (.expr body) scope (cloFrom X.env.cells scope.names []) dV doc ((X.mg "__name__").getD .none) c' ctv)),
      I1.laid (t' := tk) (kp _) (Nat.le_refl _) (fz_ok (Heap.get?_push_size _ rfl)), rfl, hQ h'.objs.size _ ?_⟩
    have sB := sA.set (.tbl (ps ++ #[rawInt pos.line, rawInt pos.col, .ref c'])) (fun _ e => by cases e)
    have sC := sB.newK (A := At (.ref c') (Kel (Fz oc))) (p := c') (o := Fz oc) (by rw [upd_ne (fun z => by rw [z, hP] at nC; cases nC)]; exact nC) ⟨c', rfl, upd_same⟩
    have sD := sC.newK (A := At (.ref h'.objs.size) (Kel (Fz (PySem.W.kdv_obj "<lambda>" (X.env.qual ++ "<lambda>") params (.expr body) scope (cloFrom X.env.cells scope.names []) dV doc ((X.mg "__name__").getD .none) c' ctv)))) (p := h'.objs.size) fr ⟨_, rfl, upd_same⟩
    refine sD.imp fun k h z => ?_
    obtain ⟨a1, a2, u1, u2, v1, ⟨p1, e1, kf⟩, a3, a4, u3, u4, v2, ⟨p2, e2, kc⟩, a5, a6, u5, u6, v3, ⟨p3, e3, hpt⟩, a7, a8, u7, u8, v4, tc, a9, a10, u9, u10, v5, fz, rest⟩ := z
    cases e1
    cases e2
    cases e3
    have eL : (ps ++ #[rawInt pos.line, rawInt pos.col, .ref c']).toList = ps.toList ++ [rawInt pos.line, rawInt pos.col, .ref c'] := by simp
    refine ⟨hnil, h, same_nil, Same.refl _, apart_nil, ⟨h'.objs.size, _, rfl, ?_, lam_ok (q := X.env.qual ++ "<lambda>") (clo := cloFrom X.env.cells scope.names []) (fd := PySem.W.kdv_fn "<lambda>" (X.env.qual ++ "<lambda>") params (.expr body) scope (cloFrom X.env.cells scope.names []) dV doc ((X.mg "__name__").getD .none) (.ref c') ctv) (f := h'.objs.size) (c' := c') (oc := oc) (vs := vs) (tq := tq) (dl := dl) (binds := binds) L ⟨rfl, rfl, rfl, rfl, rfl, rfl, rfl⟩ ⟨hd, hv⟩ cm I.ok.inj has (hbind _ _ _ _ _) hloc (hbody _ _ _)⟩,
      a5, a10, u5.trans (u4.trans u2), u10.trans (u8.trans (u6.trans (u4.trans u2))), v3.sub (Same.refl _) (u10.trans u8), ⟨_, hpt, ?_, fun p' cv hcv => ?_⟩, rest⟩
    · intro p hp
      rcases List.mem_cons.mp hp with rfl | hp
      · exact kf
      · rcases List.mem_cons.mp hp with rfl | hp
        · exact kc
        · exact fz p hp
    · rw [eL]; exact PySem.TriplesOk_snoc _ _ _ _ tri
    · rw [eL] at hcv
      rcases LamX.among_app _ tri hcv with z | z
      · exact tc p' cv z
      · exact ⟨c', oc, vs, tq, z, kc, hd, hv⟩
  | some cv =>
    obtain ⟨c', oc, vs, tq, e, hco, hd, hv⟩ := codes pos cv hc
    subst e
    refine PySem.W.kdv_makeTailHit (mg := X.mg) (c := c) (P := Pt) (ps := ps) (closure_ok hfree) I.ok.glob (I.mod.glob.keeps I.bk) hcode (TB.code.keeps I.bk) hP' tri hc bP fun ctv doc h' tk hx hsz => ?_
    have kp : ∀ (fo : Obj) b o, s.heap.get? b = some o → (h'.push fo).get? b = some o := fun fo b o e => Heap.get?_push_of_some _ (hx b o e)
    refine ⟨.ref h'.objs.size, upd H h'.objs.size (Fz (PySem.W.kdv_obj "<lambda>" (X.env.qual ++ "<lambda>") params (.expr body) scope (cloFrom X.env.cells scope.names []) dV doc ((X.mg "__name__").getD .none) c' ctv)),
      I.laid (t' := tk) (kp _) hsz (fz_ok (Heap.get?_push_size _ rfl)), rfl, hQ h'.objs.size _ ?_⟩
    have sE : Sat (At (.int 63) (FzL [(c', oc)]) :: At (.ref Pt) (Cel (.tbl ps)) :: At (.int 62) (TabC (X.env.qual ++ "<lambda>") ps) :: At (.int 61) (FzL dl) :: F) H := ⟨k, h, s1, s2, ap, nt, hnil, h, same_nil, Same.refl _, apart_nil, fun p hp => by rw [List.mem_singleton] at hp; subst hp; exact hco, h1, h2, t1, t2, y, ⟨Pt, rfl, hp⟩, hnil, h2, same_nil, Same.refl _, apart_nil, codes, r⟩
    have sD := sE.newK (A := At (.ref h'.objs.size) (Kel (Fz (PySem.W.kdv_obj "<lambda>" (X.env.qual ++ "<lambda>") params (.expr body) scope (cloFrom X.env.cells scope.names []) dV doc ((X.mg "__name__").getD .none) c' ctv)))) (p := h'.objs.size) (I.hok.fresh hsz) ⟨_, rfl, upd_same⟩
    refine sD.imp fun k h z => ?_
    obtain ⟨a1, a2, u1, u2, v1, ⟨p1, e1, kf⟩, a3, a4, u3, u4, v2, kc, a5, a6, u5, u6, v3, ⟨p3, e3, hpt⟩, a7, a8, u7, u8, v4, tc, a9, a10, u9, u10, v5, fz, rest⟩ := z
    cases e1
    cases e3
    refine ⟨hnil, h, same_nil, Same.refl _, apart_nil, ⟨h'.objs.size, _, rfl, ?_, lam_ok (q := X.env.qual ++ "<lambda>") (clo := cloFrom X.env.cells scope.names []) (fd := PySem.W.kdv_fn "<lambda>" (X.env.qual ++ "<lambda>") params (.expr body) scope (cloFrom X.env.cells scope.names []) dV doc ((X.mg "__name__").getD .none) (.ref c') ctv) (f := h'.objs.size) (c' := c') (oc := oc) (vs := vs) (tq := tq) (dl := dl) (binds := binds) L ⟨rfl, rfl, rfl, rfl, rfl, rfl, rfl⟩ ⟨hd, hv⟩ cm I.ok.inj has (hbind _ _ _ _ _) hloc (hbody _ _ _)⟩,
      a5, a10, u5.trans (u4.trans u2), u10.trans (u8.trans (u6.trans (u4.trans u2))), v3.sub (Same.refl _) (u10.trans u8), ⟨ps, hpt, tri, tc⟩, rest⟩
    intro p hp
    rcases List.mem_cons.mp hp with rfl | hp
    · exact kf
    · rcases List.mem_cons.mp hp with rfl | hp
      · exact kc _ List.mem_cons_self
      · exact fz p hp
/-! ### the rules -/
/-- a lambda: of a table, of what stands beside -/
def tLamN (X : Cx) (n : Nat) (Pt : Addr) (ys : List Str) (t : XK → TE) : TE := fun σ H Q => ∃ F, Sat (At (.int 60) (TabX Pt (X.env.qual ++ "<lambda>")) :: F) H ∧
  ∀ f, Ent (At (.ref f) (LamX X.prog X.w X.K X.mg X.base (n + 1) (spLam X.env.cells ys t)) :: At (.int 60) (TabX Pt (X.env.qual ++ "<lambda>")) :: F) (fun H1 => Q (.ref f) H1)
theorem pe_lam0 {n : Nat} {c Pt : Addr} {params : Arguments} {body : Expr} {scope : Scope} {pos : Pos} {ys : List Str} {t : XK → TE}
    (TB : LamX.TabB X.base X.mg c Pt) (hcode : X.env.code = .ref c) (L : LamS2 X.env.scope scope ys) (hdef : defaultsOf params X.env = ([], []))
    (hbind : ∀ (q : Str) (clo : List (Str × Addr)) (pm cv ctv doc : Value), bindArgs (PySem.W.kdv_fn "<lambda>" q params (.expr body) scope clo .none doc pm cv ctv) ⟨[], []⟩ = pure [])
    (hbody : ∀ (f c' : Addr) (clo : List (Str × Addr)) (A : Around) (outer : List Env) (s : Shared) (H : Hp) (E : XK), Room n (A.deeper (PySem.W.envX (X.env.qual ++ "<lambda>") scope s.heap.objs.size f (.ref c') clo)) → PE (lamCxQ X.prog X.w X.K X.mg X.base ys (X.env.qual ++ "<lambda>") clo A outer s H E scope f c') body (t E)) :
    PE X (.Lambda params body scope pos) (tLamN X n Pt ys t) := by
  refine ⟨fun pins s σ H Q I h => ?_⟩
  obtain ⟨F, sat, hQ⟩ := h
  refine PySem.W.kla_eval hdef ?_
  rw [makeFunction_eq]
  simp only [List.zip_nil_right, List.filterMap_nil, List.isEmpty_nil, if_true, pure_bind]
  refine mk_tail (dl := []) (binds := []) I TB hcode L (fun clo pm cv ctv doc s _ => .of_eq (hbind _ clo pm cv ctv doc)) (fun x hx => absurd hx (by simp)) hbody ?_ hQ
  obtain ⟨k, h, s1, s2, ap, nt, h1, h2, t1, t2, y, tx, r⟩ := sat
  exact ⟨k, h, s1, s2, ap, nt, h1, h2, t1, t2, y, tx, hnil, h2, same_nil, Same.refl _, apart_nil, fun p hp => absurd hp (by simp), r⟩
/-- a lambda with one parameter and its default -/
def tLam1 (X : Cx) (n : Nat) (Pt : Addr) (ys : List Str) (td : TE) (t : XK → TE) : TE := fun σ H Q => td σ H fun _ H1 => tLamN X n Pt ys t σ H1 Q
theorem pe_lam1 {n : Nat} {c Pt : Addr} {params : Arguments} {d : Expr} {td : TE} {body : Expr} {scope : Scope} {pos : Pos} {ys : List Str} {t : XK → TE} {x : Str}
    (TB : LamX.TabB X.base X.mg c Pt) (hcode : X.env.code = .ref c) (L : LamS2 X.env.scope scope ys) (hd : params.defaults = [d]) (hk : params.kw_defaults = []) (he : PE X d td) (hx : scope.names.lookup x = some .local)
    (hbind : ∀ (q : Str) (clo : List (Str × Addr)) (t0 : Addr) (pm cv ctv doc : Value), ∃ k, bindArgs (PySem.W.kdv_fn "<lambda>" q params (.expr body) scope clo (.ref t0) doc pm cv ctv) ⟨[], []⟩ = seqItems? (.ref t0) >>= k ∧ ∀ v : Value, k (some #[v]) = pure [(x, v)])
    (hbody : ∀ (f c' : Addr) (clo : List (Str × Addr)) (A : Around) (outer : List Env) (s : Shared) (H : Hp) (E : XK), Room n (A.deeper (PySem.W.envX (X.env.qual ++ "<lambda>") scope s.heap.objs.size f (.ref c') clo)) → PE (lamCxQ X.prog X.w X.K X.mg X.base ys (X.env.qual ++ "<lambda>") clo A outer s H E scope f c') body (t E)) :
    PE X (.Lambda params body scope pos) (tLam1 X n Pt ys td t) := by
  refine ⟨fun pins s σ H Q I h => ?_⟩
  refine PySem.W.kdv_lam (by rw [hd]; rfl) hk ?_
  rw [hd]
  refine PySem.W.kdv_all1 (thn (he.run pins s σ H _ I h) fun u s1 ⟨v0, H1, I1, r1, q1⟩ => ?_)
  refine PySem.W.kdv_all0 ?_
  obtain ⟨F, sat, hQ⟩ := q1
  rw [makeFunction_eq]
  simp only [List.zip_nil_right, List.filterMap_nil, List.isEmpty_nil, if_true, pure_bind, List.isEmpty_cons, Bool.false_eq_true, if_false]
  refine wpAny_bind (wpAny_newTextTuple ?_)
  have I2 := I1.laid (t' := s1.toks) (h' := s1.heap.push (PySem.W.kdv_tup [u])) (a := s1.heap.objs.size) (o := Fz (PySem.W.kdv_tup [u])) (fun b o e => Heap.get?_push_of_some _ e) (Nat.le_refl _) (fz_ok (Heap.get?_push_size _ rfl))
  have sB := sat.newK (A := At (.ref s1.heap.objs.size) (Kel (Fz (PySem.W.kdv_tup [u])))) (p := s1.heap.objs.size) (o := Fz (PySem.W.kdv_tup [u])) (I1.hok.fresh (Nat.le_refl _)) ⟨_, rfl, upd_same⟩
  refine mk_tail (dl := [(s1.heap.objs.size, PySem.W.kdv_tup [u])]) (binds := [(x, u)]) I2 TB hcode L (fun clo pm cv ctv doc s hs => ?_) (fun y hy => ?_) hbody (F := F) ?_ hQ
  · obtain ⟨k, e1, e2⟩ := hbind (X.env.qual ++ "<lambda>") clo s1.heap.objs.size pm cv ctv doc
    exact BindsTo.of_defaults rfl (hs _ List.mem_cons_self) rfl e1 (e2 u)
  · rw [List.mem_singleton] at hy
    subst hy
    exact hx
  · refine sB.imp fun k h z => ?_
    obtain ⟨a1, a2, u1, u2, v1, ⟨p1, e1, kf⟩, a3, a4, u3, u4, v2, tx, r⟩ := z
    cases e1
    exact ⟨a3, a4, u3.trans u2, u4.trans u2, v2, tx, hnil, a4, same_nil, Same.refl _, apart_nil, fun p hp => by rw [List.mem_singleton] at hp; subst hp; exact kf, r⟩
end
end Qn

/-! X4: a function in a name, called; isinstance of a caught error that has fields; count, index of truth values. -/
namespace PySem.W
open PySem PySem.Spec PySem.Calls PyProof.Rows
section
variable {prog : Program} {w : World} {A : Around} {E : Value → Shared → Prop} {s : Shared} {K : Frag} {x D : Addr} {ox : Obj} {od : Option Obj}
theorem qn_find_data {C : Addr} {name : Str} {a g : Value} (hc : (clsIn K C).isSome = true) (ha : findIn K (.ref C) name = some (some a)) (hg : specialIn K a "__get__" = some (some g)) (ht : takesIn K a = some true) : findObj K C od name = some (.bind g a) := by
  obtain ⟨cd, hc⟩ := Option.isSome_iff_exists.mp hc
  unfold findObj
  rw [hc, Option.bind_some, ha, Option.bind_some]
  simp [hg, ht]
theorem qn_classE {Q : Option Value → Shared → Prop} (hga : findIn K (.ref D) "__getattribute__" = some (some (.builtin "BaseException.__getattribute__"))) (hgt : findIn K (.ref D) "__getattr__" = some none) (hsub : subIn K (.ref D) (.type "BaseException") = some true)
    (hdct : hasDictIn K D = true) (ha : findIn K (.ref D) "__class__" = some (some (.builtin "object.__class__")))
    (hn : specialIn K (.builtin "object.__class__") "__get__" = some (some (.builtin "getset_descriptor.__get__"))) (htk : takesIn K (.builtin "object.__class__") = some true) (hm : mroIn K D (.type "object") = some true)
    (X : K.In s.heap) (I : InstAt s.heap x ox D od) (h : Q (some (.ref D)) { s with toks := s.toks + 1 }) : wpAny (model prog w) A (getAttr? (.ref x) "__class__") Q E s := by
  have hf : findObj K D od "__class__" = some (.bind (.builtin "getset_descriptor.__get__") (.builtin "object.__class__")) := qn_find_data (by obtain ⟨cd, hc, _⟩ := any_some hdct; rw [hc]; rfl) ha hn htk
  obtain ⟨hp, g, d, t, os⟩ := s
  have L0 := I.type (M := model prog w)
  have L1 := looks_findIn (M := model prog w) X hga
  have L2 := looks_findIn (M := model prog w) X hgt
  have L3 := looks_find (M := model prog w) X I hf
  have sub : Looks (model prog w) hp (isInstance (.ref x) (.type "BaseException")) true := L0.andThen (looks_subIn X hsub)
  have hx0 : (false && onTheHeap (Value.builtin "BaseException.__getattribute__")) = false := rfl
  have hx2 : (Value.builtin "BaseException.__getattribute__" == Value.builtin "object.__getattribute__") = false := by decide +kernel
  have hx1 : (onTheHeap (Value.ref D) && Value.builtin "BaseException.__getattribute__" == Value.builtin "object.__getattribute__") = false := by rw [hx2]; rfl
  unfold getAttr? getAttrBy? getAttrBy
  refine wpAny_bind (wpAny_mkText (wpAny_bind (wpAny_attempt (wpAny_holding (wpAny_bind (L0.at (wpAny_bind (L1.at ?_))))))))
  show wpAny _ _ (if (onTheHeap (Value.ref D) && Value.builtin "BaseException.__getattribute__" == Value.builtin "object.__getattribute__") = true then _ else _) _ _ _
  rw [hx1, if_neg Bool.false_ne_true]
  unfold getAttrByItsOwn hookBefore
  refine wpAny_bind ?_
  rw [if_pos (show onTheHeap (Value.ref D) = true from rfl)]
  refine L2.at ?_
  refine wpAny_bind (wpAny_attempt (wpAny_holding ?_))
  unfold callGetattribute
  rw [hx0, if_neg Bool.false_ne_true]
  unfold boundAndCalled
  rw [PySem.F.excAttr_ValueError.ga.bind (.ref x)]
  refine wpAny_bind (wpAny_pure ?_)
  show wpAny _ _ (call (.builtin "BaseException.__getattribute__") [.ref x, .str "__class__" t]) _ _ _
  refine wpAny_call (codeAny_call_builtin PySem.F.excAttr_ValueError.ga.plain PySem.F.entry_bexc_ga ?_)
  refine @check_slot (model prog w) _ _ ⟨hp, g, d, t + 1, os⟩ "BaseException.__getattribute__" "BaseException" "__getattribute__" (.ref x) [.str "__class__" t] [] _ (by decide +kernel) (by decide +kernel) sub (PySem.F.args_bexc_ga (.ref x) (.str "__class__" t)) ?_
  unfold Builtin.«object.__getattribute__»
  refine wpAny_bind (wpAny_of_eq (a := ((Value.ref x : Value), [Value.str "__class__" t])) (by first | rfl | (simp only [slotArgs]; rfl)) ?_)
  refine wpAny_bind (wpAny_pure (wpAny_bind (L0.at (wpAny_bind (L3.at ?_)))))
  show wpAny _ _ (holding [Value.builtin "object.__class__"] (call (.builtin "getset_descriptor.__get__") [.builtin "object.__class__", .ref x, .ref D]) >>= ret) _ _ _
  refine wpAny_bind (wpAny_holding (wpAny_call (class_get (s := ⟨hp, g, d, t + 1, os⟩) (ox := ox) (od := od) X I hm ?_)))
  refine wpAny_pure ?_
  show wpAny _ _ (handedOut (.ref D)) _ _ _
  rw [handedOut_of (v := .ref D) rfl]
  first
    | exact wpAny_pure (wpAny_pure h)
    | exact wpAny_pure h
    | exact wpAny_pure (wpAny_bind (wpAny_pure (wpAny_pure h)))
theorem qn_kitx_exc (hga : findIn K (.ref D) "__getattribute__" = some (some (.builtin "BaseException.__getattribute__"))) (hgt : findIn K (.ref D) "__getattr__" = some none) (hsub : subIn K (.ref D) (.type "BaseException") = some true) (hdct : hasDictIn K D = true) (ha : findIn K (.ref D) "__class__" = some (some (.builtin "object.__class__")))
    (hn : specialIn K (.builtin "object.__class__") "__get__" = some (some (.builtin "getset_descriptor.__get__"))) (htk : takesIn K (.builtin "object.__class__") = some true) (hm : mroIn K D (.type "object") = some true) :
    KitX K (.ref x) (.ref D) (fun h => InstAt h x ox D od) where
  ty := fun _ _ _ I => I.type
  it := fun _ _ X _ => by
    obtain ⟨cdD, hcD, _⟩ := any_some hdct
    unfold clsIn at hcD
    split at hcD
    · rename_i c' d' cd' sl' ho
      intro A' Q' E' s' k q
      unfold isType loadHead
      exact wpAny_bind (wpAny_loadPart (k _ _ (X _ _ ho)) (wpAny_pure q))
    · cases hcD
  ne := fun h tp dd its n sl X htp => by
    obtain ⟨cdD, hcD, _⟩ := any_some hdct
    refine Bool.eq_false_iff.mpr fun q => ?_
    have e : D = tp := Value.ref.inj (beq_iff_eq.mp q)
    subst e
    unfold clsIn at hcD
    split at hcD
    · rename_i c' d' cd' sl' ho
      have z := (X _ _ ho).symm.trans htp
      cases z
    · cases hcD
  ca := fun X I k => qn_classE hga hgt hsub hdct ha hn htk hm X I k
end
end PySem.W
namespace Qn
open PySem PySem.Spec PySem.Calls PyProof.Rows L2
/-- isinstance(e, c), e the exception that the suite holds, its class known when it is asked -/
def rIsE2 (K : PySem.W.Frag) (cls : Value) (d : Option Addr) (a : Addr) : List V → Hp → VK → Prop := fun xs H Q => ∃ (D : Addr) (c : V) (cv : Value) (b : Bool), cls = .ref D ∧ ExcC K D ∧ (∀ dd, d = some dd → ∃ fs, H dd = some (.xd fs)) ∧ xs = [.ref a, c] ∧ (∀ u, RelV c u → u = cv) ∧ PySem.W.kitOne K cls cv = some b ∧ Q (.bl b) H
theorem call_isE2 {X : Cx} {a : Addr} {cls : Value} {d : Option Addr} {oe : Obj} {pn : List (Addr × Obj)} (hz : Zc cls d oe) (hf : ∃ vs, oe.data = .fields vs) : CallR (X.suite a ((a, oe) :: pn)) (.builtin "isinstance") (rIsE2 X.K cls d a) := by
  intro pins s σ H xs us Q I r h
  obtain ⟨D, c, cv, b, rfl, C, hdd, rfl, hcv, e, q⟩ := h
  cases r with
  | cons rx rr =>
    cases rr with
    | cons rt rr =>
      cases rr
      cases rx
      have ec := hcv _ rt
      subst ec
      obtain ⟨hget, _⟩ := I.pin (a, oe) (List.mem_append.mpr (.inl List.mem_cons_self))
      obtain ⟨vs, hv⟩ := hf
      cases d with
      | none =>
        have J : PySem.W.InstAt s.heap a oe D none := by
          obtain ⟨oc, od, oda, osl⟩ := oe
          obtain ⟨h1, h2⟩ := hz
          dsimp only at h1 h2 hv
          subst h1 h2 hv
          exact ⟨hget, rfl, rfl, trivial⟩
        exact PySem.W.kia_one (PySem.W.qn_kitx_exc C.hg C.hk C.hs C.hd C.ha C.hn C.ht C.hm) I.kIn J e (fun z => nomatch z) fun tk => ⟨.bl b, H, I.kept (t' := tk) fun _ _ z => z, rfl, q⟩
      | some dd =>
        obtain ⟨fs, hfs⟩ := hdd dd rfl
        obtain ⟨mA, hns, hr⟩ := (show ObjOk X.prog X.w H s.heap dd (.xd fs) from I.hok dd _ hfs)
        obtain ⟨od, ho, hl⟩ := lookIn_ns hns
        have J : PySem.W.InstAt s.heap a oe D (some od) := ⟨hget, hz.1, by unfold PySem.W.notCls; rw [hv] <;> rfl, by rw [hz.2]; exact ho⟩
        exact PySem.W.kia_one (PySem.W.qn_kitx_exc C.hg C.hk C.hs C.hd C.ha C.hn C.ht C.hm) I.kIn J e (fun z => nomatch z) fun tk => ⟨.bl b, H, I.kept (t' := tk) fun _ _ z => z, rfl, q⟩
/-- x(), x a name of the def that holds a function that was made -/
def tCallW (X : Cx) (n i : Nat) (W : WX) : TE := fun σ H Q => ∃ f L sp, σ[i]? = some (some (.ref f)) ∧ LamOk X.prog X.w X.K X.mg X.base n f L sp ∧ (∀ p ∈ L, H p.1 = some (Fz p.2)) ∧ sp H Q fun cls d H' => W cls d σ H'
theorem pe_callW {X : Cx} {n i : Nat} {W : WX} {x : Str} {p pos : Pos} (tk : Takes X W) (hr : Room n X.A) (hN : X.N[i]? = some x) (hv : Vis X.env.scope x) (hdb : (x == ("__debug__" : Str)) = false := by decide) (hcd : (x == ("__classdict__" : Str)) = false := by decide) :
    PE X (.Call (.Name x p) [] [] pos) (tCallW X n i W) := by
  refine ⟨fun pins s σ H Q I h => ?_⟩
  obtain ⟨f, L, sp, hs, lam, hL, hsp⟩ := h
  refine wpAny_Call_Name_kw (thn ((pe_var (pos := p) (i := i) hN hv hdb hcd).run pins s σ H (fun v H1 => v = .ref f ∧ H1 = H) I ⟨.ref f, hs, rfl, rfl⟩) fun u s1 ⟨v, H1, I1, r1, q1⟩ => ?_)
  obtain ⟨ev, eH⟩ := q1
  subst ev
  subst eH
  obtain rfl : u = Value.ref f := r1
  obtain ⟨o, fd, hm, rfl⟩ := lam.fn
  refine PySem.W.callWith_F0 ⟨_, _, _, _, fz_at I1.hok (hL _ hm)⟩ ?_
  refine wpAny_call (codeAny_mono (lam.run X.A X.stack s1 _ Q (fun cls d H' => W cls d σ H') hr I1.env0 hL hsp) fun r s' hq => ?_)
  have hx := passAt tk σ
  cases r with
  | error e => exact hx pins _ s1 e s' I1 hq
  | ok fl =>
    cases fl with
    | ret u => exact I1.after hq
    | next => exact False.elim hq
    | brk => exact False.elim hq
    | cont => exact False.elim hq
/-- the field of the caught error, its class known when it is read -/
def tXf2 (K : PySem.W.Frag) (a : Addr) (cls : Value) (d : Option Addr) (f : Str) (te : TE) : TE := fun σ H Q => te σ H fun x H1 => x = .ref a ∧ ∃ C, cls = .ref C ∧ XfC K C ∧ PySem.W.findIn K (.ref C) f = some none ∧ ∃ (dd : Addr) (fs : List (Str × V)) (v : V), d = some dd ∧ H1 dd = some (.xd fs) ∧ fs.lookup f = some v ∧ Q v H1
theorem pe_xf2 {X : Cx} {a : Addr} {oe : Obj} {cls : Value} {d : Option Addr} {pn : List (Addr × Obj)} {e : Expr} {te : TE} {pos : Pos} {n : Str}
    (hz : Zc cls d oe) (hf : ∃ vs, oe.data = .fields vs) (he : PE (X.suite a ((a, oe) :: pn)) e te) (hb : attributeBase e n X.env (eval e X.env) = eval e X.env := by rfl) :
    PE (X.suite a ((a, oe) :: pn)) (.Attribute e n pos) (tXf2 X.K a cls d n te) := by
  refine ⟨fun pins s σ H Q I h => ?_⟩
  refine attr_of hb (thn (he.run pins s σ H _ I h) fun u s1 hh => ?_)
  obtain ⟨x, H1, I1, rx, ex, C, ec, T, hno, dd, fs, v, ed, ea, l, q⟩ := hh
  subst ex
  obtain rfl : u = Value.ref a := rx
  subst ec
  subst ed
  obtain ⟨ha, _⟩ := I1.pin (a, oe) (List.mem_append_left _ List.mem_cons_self)
  obtain ⟨vs, hd⟩ := hf
  have hx : ObjOk X.prog X.w H1 s1.heap dd (.xd fs) := I1.hok dd _ ea
  obtain ⟨mA, hns, hr⟩ := hx
  obtain ⟨od, ho, hl⟩ := lookIn_ns hns
  obtain ⟨u, hu, ru⟩ := RelO.some_of (v := v) (o := mA n) (by rw [← l]; exact hr n)
  have J : PySem.W.InstAt s1.heap a oe C (some od) := ⟨ha, hz.1, by unfold PySem.W.notCls; rw [hd] <;> rfl, by rw [hz.2]; exact ho⟩
  exact HandSPX.exc_get I1.kIn J T.ga T.gg T.exC (PySem.W.findObj_own T.hdC hno rfl (by rw [hl, hu])) (handed_of ru) ⟨v, H1, I1.tok _, ru, q⟩
/-- list.count of flat things -/
def rCntF (K : PySem.W.Frag) : V → List V → Hp → VK → Prop := fun x xs H Q => ∃ (a : Addr) (ys : List V) (y : V), x = .ref a ∧ xs = [y] ∧ SqL K H a ys ∧ flatV y = true ∧ ys.all flatV = true ∧ Q (.int (ys.countP fun z => eqV z y : Nat)) H
theorem eqU_count {y : V} : ∀ {ys : List V} {us : List Value}, Vals ys us → ys.all flatV = true → us.countP (eqU y) = ys.countP fun z => eqV z y
  | _, _, .nil, _ => rfl
  | _, _, .cons (a := z) r t, h => by
    rw [List.all_cons, Bool.and_eq_true] at h
    rw [List.countP_cons, List.countP_cons, eqU_count t h.2, eqU_of r h.1]
theorem mt_countF {X : Cx} : MtR X "list.count" (rCntF X.K) := by
  intro pins s σ H x xs v us Q I rx rxs h
  obtain ⟨a, ys, y, rfl, rfl, hs, fy, fys, q⟩ := h
  cases rx
  cases rxs with
  | cons ry rt =>
    rename_i uy ut
    cases rt
    obtain ⟨its, rv, ⟨⟨cls, dd, data, sl⟩, n, ho, hc, hdn, hd⟩, hlen⟩ := I.list hs
    simp only at hc hd
    subst hc hd
    refine call_meets PySem.F.slot_list_count ⟨_, ho, rfl⟩ PySem.F.entry_list_count (PySem.F.args_list_count_2 _ _)
      (SeqAt.list_countAt a its.toArray n dd sl uy (eqU y)) ⟨ho, fun u' hu' => mem_eqAt ry fy rv fys u' (by simpa using hu'), ?_⟩
    have ec : its.toArray.toList.countP (eqU y) = ys.countP fun z => eqV z y := eqU_count rv fys
    refine ⟨.int (ys.countP fun z => eqV z y : Nat), H, I.tok _, ⟨s.toks, ?_⟩, q⟩
    show Value.int ((its.toArray.toList.countP (eqU y) : Nat) : Int) s.toks = Value.int ((ys.countP fun z => eqV z y : Nat) : Int) s.toks
    rw [ec]
end Qn

/-! X5: a base's __init__ called by its name; the making of errors that have fields. -/
namespace Qn
open PySem PySem.Spec PySem.Calls PyProof.Rows L2
/-- an own class whose __init__ is ValueError's, read off the class -/
structure LeC (K : PySem.W.Frag) (mg : Str → Option Value) (x : Str) (LE : Addr) : Prop where
  g : mg x = some (.ref LE)
  rd : PySem.W.readsIn K LE (.type "type") = true
  at_ : PySem.W.findCls K (.ref LE) (.type "type") "__init__" = some (.val (.builtin "ValueError.__init__"))
  ga : PySem.W.specialIn K (.ref LE) "__getattribute__" = some (some (.builtin "type.__getattribute__"))
section
variable {X : Cx} {e : Expr} {es : List Expr} {ta : TA} {p1 p2 pos : Pos} {x : Str} {LE : Addr}
theorem pe_leinit {pl : Sem Bool} (hg : Gl X x) (T : LeC X.K X.mg x LE) (ha : PA X (e :: es) ta)
    (hc : eval (.Call (.Attribute (.Name x p1) "__init__" p2) (e :: es) [] pos) X.env = (do
      let ov ← eval (.Name x p1) X.env
      standAt p2.atName
      let (f, first) ← holding [ov] (getMethod ov "__init__" pl)
      callWith pos f first (backTo pos (starEach (e :: es) X.env)) (backToKw pos (keywordEach [] X.env))) := by rfl)
    (hdb : (x == ("__debug__" : Str)) = false := by decide)
    (he : starEach (e :: es) X.env = (false, eval e X.env) :: starEach es X.env := by rfl) (hpl : (backTo pos (starEach es X.env)).any (·.1) = false := by rfl) :
    PE X (.Call (.Attribute (.Name x p1) "__init__" p2) (e :: es) [] pos) (tVeI X.K ta) := by
  refine ⟨fun pins s σ H Q I h => ?_⟩
  refine PySem.W.methodCall_KW (ld_glob I hg T.g ?_ hdb) hc
  refine PySem.W.method_cls I.kIn T.ga (PySem.W.cls_value I.kIn T.rd T.at_ (by decide +kernel) ?_)
  show wpAny _ _ (callWith pos (Value.builtin "ValueError.__init__") [] (backTo pos (starEach (e :: es) X.env)) []) _ _ _
  refine PyProof.Rows.callWith_method1 (thn (ha.run pos pins _ σ H _ (I.tok _) h) fun us s1 ⟨vs, H1, I1, r1, a, C, ws, ev, hl, T, ea, q⟩ => ?_) he hpl
  subst ev
  cases r1 with
  | @cons _ u0 _ ur ra rw' =>
    obtain rfl : u0 = Value.ref a := ra
    have hlen : ur.length ≤ sizeLine := by
      rw [← Paired.length rw', sizeLine_eq]
      omega
    exact oinit_ok T I1 ea hlen fun s' J => ⟨.non, H1, J, rfl, q⟩
end
end Qn

/-! X6: refusals, their classes; parts of what stands with a frame's cells told; rules of lambdas over parts. -/
namespace Qn
open PySem PySem.Spec PySem.Calls PyProof.Rows L2
/-! ### refusals -/
inductive Rf where
  | rules (p l : Int)
  | runs (n : Int)
  | task
  | tasks (n : Int)
  | text (n : Int)
  | until_
  | notThere
  | ready
  | there
  | waits
def Rf.ix : Rf → Nat
  | .rules _ _ => 0
  | .runs _ => 1
  | .task => 2
  | .tasks _ => 3
  | .text _ => 4
  | .until_ => 5
  | .notThere => 6
  | .ready => 7
  | .there => 8
  | .waits => 9
/-- what is told of it -/
def Rf.v : Rf → List V
  | .rules p l => [.str "BadRules", .int p, .int l]
  | .runs n => [.str "BadRuns", .int n]
  | .task => [.str "BadTask", .int 0]
  | .tasks n => [.str "BadTasks", .int n]
  | .text n => [.str "BadText", .int n]
  | .until_ => [.str "BadUntil", .int 0]
  | .notThere => [.str "NotThere", .int 0]
  | .ready => [.str "Ready", .int 0]
  | .there => [.str "There", .int 0]
  | .waits => [.str "Waits", .int 0]
def Rf.d : Rf → PyData
  | .rules p l => .tuple [.str "BadRules", .int p, .int l]
  | .runs n => .tuple [.str "BadRuns", .int n]
  | .task => .tuple [.str "BadTask", .int 0]
  | .tasks n => .tuple [.str "BadTasks", .int n]
  | .text n => .tuple [.str "BadText", .int n]
  | .until_ => .tuple [.str "BadUntil", .int 0]
  | .notThere => .tuple [.str "NotThere", .int 0]
  | .ready => .tuple [.str "Ready", .int 0]
  | .there => .tuple [.str "There", .int 0]
  | .waits => .tuple [.str "Waits", .int 0]
/-- its fields, as they were stored -/
def Rf.fs : Rf → Option (List (Str × V))
  | .rules p l => some [("line", .int l), ("part", .int p)]
  | .runs n => some [("number", .int n)]
  | .tasks n => some [("number", .int n)]
  | .text n => some [("row", .int n)]
  | _ => none
/-- its own dict -/
def RfX (r : Rf) (d : Option Addr) : Ty := fun _ => ⟨fun _ h => match r.fs with
  | some fs => ∃ dd, d = some dd ∧ h dd = some (.xd fs)
  | none => d = none, fun _ x => x⟩
/-- what the text says of a class of refusals: D, the j-th of cs, over LE -/
structure RfC (K : PySem.W.Frag) (LE : Addr) (cs : List Addr) (D : Addr) (j : Nat) : Prop where
  kit : ∀ (i : Nat) c, cs[i]? = some c → PySem.W.kitOne K (.ref D) (.ref c) = some (decide (i = j))
  ve : PySem.W.kitOne K (.ref D) (.type "ValueError") = some true
  exm : PySem.W.exmOne K (.ref D) (.ref LE) = some true
  exc : ExcC K D
theorem RfC.xf {K : PySem.W.Frag} {LE : Addr} {cs : List Addr} {D : Addr} {j : Nat} (h : RfC K LE cs D j) : XfC K D := ⟨h.exc.hg, h.exc.hk, h.exc.hs, h.exc.hd⟩
theorem kit_no {K : PySem.W.Frag} {D C : Addr} (h1 : PySem.W.isClsIn K C = true) (h2 : PySem.W.typeIn K (.ref C) = some (.type "type")) (h3 : PySem.W.subIn K (.ref D) (.ref C) = some false) (h4 : PySem.W.subIn K (.ref C) (.ref C) = some true) : PySem.W.kitOne K (.ref D) (.ref C) = some false := by
  have ne : ¬ ((Value.ref D == Value.ref C) = true) := fun e => by
    have e2 : D = C := Value.ref.inj (beq_iff_eq.mp e)
    subst e2
    rw [h3] at h4
    cases h4
  unfold PySem.W.kitOne PySem.W.kitCls
  rw [if_neg ne]
  dsimp only
  have h5 : ((PySem.W.clsIn K C).isSome && PySem.W.typeIn K (.ref C) == some (.type "type")) = true := by
    have h1' : (PySem.W.clsIn K C).isSome = true := h1
    rw [h1', h2]; rfl
  rw [if_pos h5]
  exact h3
theorem kit_yes {K : PySem.W.Frag} {D : Addr} : PySem.W.kitOne K (.ref D) (.ref D) = some true := by
  unfold PySem.W.kitOne
  rw [if_pos (beq_self_eq_true _)]
theorem kit_ve {K : PySem.W.Frag} {D : Addr} (h : PySem.W.subIn K (.ref D) (.type "ValueError") = some true) : PySem.W.kitOne K (.ref D) (.type "ValueError") = some true := by
  unfold PySem.W.kitOne PySem.W.kitCls
  rw [if_neg (by simp)]
  dsimp only
  rw [if_pos (by decide +kernel)]
  exact h
theorem exm_of {K : PySem.W.Frag} {D C : Addr} (h1 : PySem.W.subIn K (.ref C) (.type "BaseException") = some true) (h2 : PySem.W.isClsIn K C = true) (h3 : PySem.W.typeIn K (.ref C) = some (.type "type")) (h4 : PySem.W.subIn K (.ref D) (.ref C) = some true) : PySem.W.exmOne K (.ref D) (.ref C) = some true := by
  have e1 : (PySem.W.subIn K (.ref C) (.type "BaseException") == some true) = true := by rw [h1]; rfl
  have e2 : ((PySem.W.clsIn K C).isSome && PySem.W.typeIn K (.ref C) == some (.type "type")) = true := by
    have h2' : (PySem.W.clsIn K C).isSome = true := h2
    rw [h2', h3]; rfl
  unfold PySem.W.exmOne
  rw [if_pos e1]
  unfold PySem.W.kitCls
  dsimp only
  rw [if_pos e2]
  exact h4
theorem kit10 {K : PySem.W.Frag} {D c0 c1 c2 c3 c4 c5 c6 c7 c8 c9 : Addr} {b0 b1 b2 b3 b4 b5 b6 b7 b8 b9 : Bool} {j : Nat} (h0 : PySem.W.kitOne K (.ref D) (.ref c0) = some b0) (h1 : PySem.W.kitOne K (.ref D) (.ref c1) = some b1) (h2 : PySem.W.kitOne K (.ref D) (.ref c2) = some b2) (h3 : PySem.W.kitOne K (.ref D) (.ref c3) = some b3)
    (h4 : PySem.W.kitOne K (.ref D) (.ref c4) = some b4) (h5 : PySem.W.kitOne K (.ref D) (.ref c5) = some b5) (h6 : PySem.W.kitOne K (.ref D) (.ref c6) = some b6) (h7 : PySem.W.kitOne K (.ref D) (.ref c7) = some b7) (h8 : PySem.W.kitOne K (.ref D) (.ref c8) = some b8) (h9 : PySem.W.kitOne K (.ref D) (.ref c9) = some b9)
    (e : (List.range 10).map (fun i => decide (i = j)) = [b0, b1, b2, b3, b4, b5, b6, b7, b8, b9] := by decide) : ∀ (i : Nat) c, [c0, c1, c2, c3, c4, c5, c6, c7, c8, c9][i]? = some c → PySem.W.kitOne K (.ref D) (.ref c) = some (decide (i = j)) := by
  intro i c hc
  simp only [List.range, List.range.loop, List.map_cons, List.map_nil, List.cons.injEq, and_true] at e
  obtain ⟨e0, e1, e2, e3, e4, e5, e6, e7, e8, e9⟩ := e
  match i, hc with
  | 0, hc => cases hc; rw [h0, e0]
  | 1, hc => cases hc; rw [h1, e1]
  | 2, hc => cases hc; rw [h2, e2]
  | 3, hc => cases hc; rw [h3, e3]
  | 4, hc => cases hc; rw [h4, e4]
  | 5, hc => cases hc; rw [h5, e5]
  | 6, hc => cases hc; rw [h6, e6]
  | 7, hc => cases hc; rw [h7, e7]
  | 8, hc => cases hc; rw [h8, e8]
  | 9, hc => cases hc; rw [h9, e9]
  | i + 10, hc => simp at hc
/-- a class of refusals without fields -/
structure RzP (K : PySem.W.Frag) (D : Addr) : Prop where
  own : PySem.W.excIn K D [.type "ValueError", .type "Exception", .type "BaseException", .type "object"] "ValueError.__new__" = true
  kp : PySem.W.keepIn K (.ref D) = true
  b : PySem.W.subIn K (.ref D) (.type "BaseException") = some true
  t : PySem.W.typeIn K (.ref D) = some (.type "type")
/-- one with fields: its __init__ at f -/
structure RzF (K : PySem.W.Frag) (D f : Addr) (fs : List Str) : Prop where
  oex : OexC K D
  i : PySem.W.findIn K (.ref D) "__init__" = some (some (.ref f))
  ti : PySem.W.typeIn K (.ref f) = some (.type "function")
  no : ∀ x ∈ fs, PySem.W.findIn K (.ref D) x = some none
/-! ### a def whose code object is told -/
structure FunC (K : PySem.W.Frag) (x qual : Str) (st : Stmt) (f : Addr) (fd : FuncData) (c : Addr) : Prop where
  ex : ∃ (oc : Value) (od : Option Addr) (kV doc pm : Value) (an : Option Addr) (ct : Value) (osl : Array (Option Value)),
    fd = PySem.W.fnOf x qual (defArgs st) (defBody st) (defScope st) .none kV doc pm an (.ref c) ct ∧ K.lookup f = some ⟨oc, od, .func fd, osl⟩ ∧ PySem.W.codeIn K (.ref c) qual = true
  kp : PySem.W.keepIn K (.ref f) = true
theorem FunC.fun_ {K : PySem.W.Frag} {x qual : Str} {st : Stmt} {f : Addr} {fd : FuncData} {c : Addr} (F : FunC K x qual st f fd c) : Fun K x qual st f fd := by
  obtain ⟨oc, od, kV, doc, pm, an, ct, osl, h⟩ := F.ex
  exact ⟨⟨oc, od, kV, doc, pm, an, .ref c, ct, osl, h⟩, F.kp⟩
theorem funC_mk {K : PySem.W.Frag} {x qual : Str} {st : Stmt} {f c : Addr} {oc : Value} {od an : Option Addr} {osl : Array (Option Value)} {kV doc pm ct : Value} (l : K.lookup f = some ⟨oc, od, .func (PySem.W.fnOf x qual (defArgs st) (defBody st) (defScope st) .none kV doc pm an (.ref c) ct), osl⟩)
    (h : PySem.W.codeIn K (.ref c) qual = true) (k : PySem.W.keepIn K (.ref f) = true) : FunC K x qual st f (PySem.W.fnOf x qual (defArgs st) (defBody st) (defScope st) .none kV doc pm an (.ref c) ct) c := ⟨⟨oc, od, kV, doc, pm, an, ct, osl, rfl, l, h⟩, k⟩
theorem FunC.ok {P : Program} {w : World} {K : PySem.W.Frag} {mg : Str → Option Value} {base : Heap} {x qual : Str} {st : Stmt} {f : Addr} {fd : FuncData} {c : Addr} {N ps : List Str} {k : Nat} {sp : Sp} (F : FunC K x qual st f fd c) (S : FnScope N ps (defScope st)) (len : ∀ vs H Q E, sp vs H Q E → vs.length = ps.length)
    (hbody : ∀ (A : Around) (outer : List Env) (s : Shared) (H : Hp) (vs : List V) (Q : VK) (E : XK), Room k (A.deeper (envOfC qual (defScope st) s.heap.objs.size f (.ref c))) → sp vs H Q E →
      ∃ t, PSs (cxOf L2.CX0 P w K mg base N qual (defScope st) f (.ref c) A outer s H E).nox (defBody st) t ∧ t { nx := fun _ H' => Q .non H', rt := Q } (start N vs) H) : FnOk P w K mg base L2.CX0 (k + 1) f fd ps sp := by
  obtain ⟨oc, od, kV, doc, pm, an, ct, osl, rfl, lk, hcd⟩ := F.ex
  refine fn_of lk hcd S len fun A outer s H vs Q E hr hsp => ?_
  obtain ⟨t, h, q⟩ := hbody A outer s H vs Q E hr hsp
  exact ⟨t, h.nox, q⟩
/-! ### the cells of a frame are found by their names -/
theorem clOk_from : ∀ (names : List (Str × NameKind)) (n : Nat) (acc : List (Str × Addr)), (names.map (·.1)).Nodup → (∀ y ∈ names.map (·.1), acc.lookup y = none) → ClOk acc → ClOk (cellsFrom n names acc)
  | [], _, _, _, _, h => h
  | (x, k) :: r, n, acc, nd, no, h => by
    obtain ⟨n1, n2⟩ := List.nodup_cons.mp nd
    unfold cellsFrom
    split
    · refine clOk_from r (n + 1) ((x, n) :: acc) n2 (fun y hy => ?_) (fun y c m => ?_)
      · have ne : (y == x) = false := by
          cases e : y == x with
          | false => rfl
          | true => exact absurd (by rw [← beq_iff_eq.mp e]; exact hy) n1
        rw [List.lookup_cons, ne]
        exact no y (List.mem_cons_of_mem _ hy)
      · rcases List.mem_cons.mp m with e | m
        · cases e
          rw [List.lookup_cons, beq_self_eq_true]
        · have ne : (y == x) = false := by
            cases e : y == x with
            | false => rfl
            | true =>
              have e2 := h y c m
              rw [beq_iff_eq.mp e, no x List.mem_cons_self] at e2
              cases e2
          rw [List.lookup_cons, ne]
          exact h y c m
    · exact clOk_from r n acc n2 (fun y hy => no y (List.mem_cons_of_mem _ hy)) h
theorem clOk_scope {names : List (Str × NameKind)} {n : Nat} (nd : (names.map (·.1)).Nodup) : ClOk (cellsFrom n names []) := clOk_from names n [] nd (fun _ _ => rfl) fun _ _ m => by cases m
/-! ### calls for which cells are told -/
section
variable {X : Cx} {k : Nat} {x : Str} {ps : List Str} {sp : Sp} {p pos : Pos} {e : Expr} {es : List Expr} {t : TA}
theorem q_callC (F : Cal X.prog X.w X.K X.mg X.base L2.CX0 k x ps sp) (hr : Room k X.A) (hfn : ∀ y, X.fn y = true) (hcl : ClOk X.env.cells) (ha : PA X (e :: es) t) (hg : Gl X x := by rfl) (hdb : (x == ("__debug__" : Str)) = false := by decide)
    (he : starEach (e :: es) X.env = (false, eval e X.env) :: starEach es X.env := by rfl) (hpl : (backTo pos (starEach es X.env)).any (·.1) = false := by rfl) : PE X (.Call (.Name x p) (e :: es) [] pos) (tCallC X sp t) := by
  obtain ⟨f, fd, F, hm, hk, hb⟩ := F
  refine ⟨fun pins s σ H Q I h => ?_⟩
  refine wpAny_Call_Name_kw (ld_glob I hg hm ?_ hdb)
  refine PySem.W.callWith_K (h₀ := X.base) I.ok.mod.kin hk (thn (ha.run pos pins s σ H _ I h) fun us s1 ⟨vs, H1, I1, r, q⟩ => ⟨I1.kIn, ?_⟩) he hpl
  exact run_fnC F hr hb hfn hcl I1 r q
end
/-! ### parts, with cells told -/
def CelsX (os : List (Addr × Obj)) : Ty := fun _ => ⟨fun _ h => OsIn os h, fun _ x => x⟩
section
variable {P P0 F : List As} {H : Hp} {os : List (Addr × Obj)} {v : V}
theorem Sat.cutC (s : Sat (At v (CelsX os) :: P0) H) : OsIn os H ∧ Sat P0 (Qn.cutC os H) := by
  obtain ⟨k, h, s1, s2, ap, nt, h1, h2, t1, t2, y, i, r⟩ := s
  have i : OsIn os h1 := i
  refine ⟨fun b o e => s2 _ _ (t1 _ _ (i b o e)), k, h2, fun b o e => ?_, fun b o e => ?_, ap.sub (Same.refl _) t2, nt.sub t2, r⟩
  · cases z : os.lookup b with
    | none => rw [cut_out z]; exact s1 _ _ e
    | some q =>
      have := t1 _ _ (i b q z)
      rcases ap b with w | w
      · rw [w] at e; cases e
      · rw [w] at this; cases this
  · cases z : os.lookup b with
    | none => rw [cut_out z]; exact s2 _ _ (t2 _ _ e)
    | some q =>
      rcases y b with w | w
      · rw [i b q z] at w; cases w
      · rw [w] at e; cases e
theorem Sat.plusC (s : Sat P H) (out : OsOut os H) : Sat (At v (CelsX os) :: P) (Qn.plusC os H) := by
  obtain ⟨k, h, s1, s2, ap, nt, r⟩ := s
  obtain ⟨hA, hAe⟩ : ∃ hA : Hp, hA = fun b => (os.lookup b).map fun o => Fz o := ⟨_, rfl⟩
  have at_ : ∀ b o, os.lookup b = some o → hA b = some (Fz o) := fun b o e => by rw [hAe]; dsimp only; rw [e]; rfl
  have no : ∀ b, os.lookup b = none → hA b = none := fun b e => by rw [hAe]; dsimp only; rw [e]; rfl
  have apA : ∀ {g : Hp}, Same g H → Apart g hA := fun {g} sg b => by
    cases z : os.lookup b with
    | none => exact .inr (no b z)
    | some q => exact .inl (sg.free (out b q z))
  have sP : ∀ {g : Hp}, Same g H → Same g (Qn.plusC os H) := fun {g} sg b o e => by
    cases z : os.lookup b with
    | none => rw [plus_out z]; exact sg _ _ e
    | some q => have := sg _ _ e; rw [out b q z] at this; cases this
  have sA : Same hA (Qn.plusC os H) := fun b o e => by
    cases z : os.lookup b with
    | none => rw [no b z] at e; cases e
    | some q => rw [at_ b q z] at e; rw [plus_in z]; exact e
  refine ⟨k, hor hA h, sP s1, hor_sub sA (sP s2), (hor_apart (apA s1).symm ap.symm).symm, noTup_hor (fun b xs e => ?_) nt, hA, h, same_hor_l, same_hor_r (apA s2).symm, (apA s2).symm, fun b o e => at_ b o e, r⟩
  cases z : os.lookup b with
  | none => rw [no b z] at e; cases e
  | some q => rw [at_ b q z] at e; cases e
/-- a call for which cells are told, begun -/
theorem e_callC {X : Cx} {sp : Sp} {vs : List V} {σ : L2.St} {Q : VK} (k : ∀ os, OsFor X.env.cells os → (∀ (i : Nat) y v, X.N[i]? = some y → σ[i]? = some (some v) → X.env.scope.names.lookup y = some .cell → CelV X.env.cells os y v) →
      Ent (At (.int 90) (CelsX os) :: P) (fun H => sp vs H (fun v H' => OsIn os H' → Q v (Qn.cutC os H')) (fun _ _ _ => False))) :
    Ent P (fun H1 => ∀ os, OsFor X.env.cells os → (∀ (i : Nat) y v, X.N[i]? = some y → σ[i]? = some (some v) → X.env.scope.names.lookup y = some .cell → CelV X.env.cells os y v) → OsOut os H1 →
      sp vs (Qn.plusC os H1) (fun v H' => OsIn os H' → Q v (Qn.cutC os H')) (fun _ _ _ => False)) := fun H s os osf cv out => k os osf cv _ (s.plusC out)
/-- .. ended -/
theorem e_cutE {Q : VK} {u : V} (e : Ent P (fun H => Q u H)) : Ent (At v (CelsX os) :: P) (fun H' => OsIn os H' → Q u (Qn.cutC os H')) := fun H s _ => e _ s.cutC.2
theorem e_plusE {E : Hp → Prop} (e : Ent (At (.int 90) (CelsX os) :: P) (fun H => E H)) : Ent P (fun H' => OsOut os H' → E (Qn.plusC os H')) := fun H s out => e _ (s.plusC out)
/-- a lambda's reading, its maker's cells being told -/
theorem e_spLam {cl : List (Str × Addr)} {ys : List Str} {t : XK → TE} {vals : List V} {Q : VK} {E : XK} (osf : OsFor cl os) (hl : vals.length = ys.length) (cv : ∀ (i : Nat) y v, ys[i]? = some y → vals[i]? = some v → CelV cl os y v)
    (k : Ent P (fun H => t (fun cls d H' => OsOut os H' → E cls d (Qn.plusC os H')) (vals.map some) H fun v H' => OsOut os H' → Q v (Qn.plusC os H'))) : Ent (At v (CelsX os) :: P) (fun H => spLam cl ys t H Q E) := fun H s =>
  ⟨os, vals, osf, hl, cv, s.cutC.1, k _ s.cutC.2⟩
theorem e_lamN {X : Cx} {n : Nat} {Pt : Addr} {ys : List Str} {t : XK → TE} {σ : L2.St} {Q : VK} [tk : Take P (.int 60) (TabX Pt (X.env.qual ++ "<lambda>")) F]
    (k : ∀ f, Ent (At (.ref f) (LamX X.prog X.w X.K X.mg X.base (n + 1) (spLam X.env.cells ys t)) :: At (.int 60) (TabX Pt (X.env.qual ++ "<lambda>")) :: F) (fun H => Q (.ref f) H)) : Ent P (fun H => tLamN X n Pt ys t σ H Q) := fun H s => ⟨F, s.imp tk.tk, k⟩
end
end Qn

/-! X7: what is told of a refusal; the making of refusals that have fields. -/
namespace Qn
open PySem PySem.Spec PySem.Calls PyProof.Rows L2
theorem PSs.by_ {X : Cx} {b : List Stmt} {ts : TS} (f : ∀ D σ H, ts D σ H → ∃ t, PSs X b t ∧ t D σ H) : PSs X b ts := ⟨fun pins s σ H D I h => by
  obtain ⟨t, p, q⟩ := f D σ H h
  exact p.run pins s σ H D I q⟩
/-- a call of a function in a name, of parts told one by one -/
def tCallWp (P : Program) (w : World) (K : PySem.W.Frag) (mg : Str → Option Value) (base : Heap) (n i : Nat) (W : WX) : TE := fun σ H Q => ∃ f L sp, σ[i]? = some (some (.ref f)) ∧ LamOk P w K mg base n f L sp ∧ (∀ p ∈ L, H p.1 = some (Fz p.2)) ∧ sp H Q fun cls d H' => W cls d σ H'
theorem pe_callWp {X : Cx} {n i : Nat} {W : WX} {x : Str} {p pos : Pos} (tk : Takes X W) (hr : Room n X.A) (hN : X.N[i]? = some x) (hv : Vis X.env.scope x) (hdb : (x == ("__debug__" : Str)) = false := by decide) (hcd : (x == ("__classdict__" : Str)) = false := by decide) :
    PE X (.Call (.Name x p) [] [] pos) (tCallWp X.prog X.w X.K X.mg X.base n i W) := pe_callW tk hr hN hv hdb hcd
/-- .. with its fields' names -/
structure RfD (K : PySem.W.Frag) (LE : Addr) (cs : List Addr) (C : Addr) (r : Rf) : Prop extends RfC K LE cs C r.ix where
  no : ∀ fs, r.fs = some fs → ∀ x ∈ fs.map (·.1), PySem.W.findIn K (.ref C) x = some none
/-- what stands when a refusal is caught -/
def ToldE (K : PySem.W.Frag) (LE : Addr) (cs : List Addr) (Q : VK) : XK := fun cls d H => ∃ r F C, cls = .ref C ∧ RfD K LE cs C r ∧ Sat (At (.int 95) (RfX r d) :: F) H ∧ ∀ t, Ent (At (.ref t) (KTup r.v) :: F) (fun H => Q (.ref t) H)
def tsTold (K : PySem.W.Frag) (LE : Addr) (cs : List Addr) : Addr → Value → Option Addr → TS := fun a_ cls d D σ H => (∃ f, σ = [f, some (.ref a_), none, none, none]) ∧ ToldE K LE cs D.rt cls d H
def sp_law_told (P : Program) (w : World) (mg : Str → Option Value) (base : Heap) (n : Nat) (LE : Addr) (cs : List Addr) (K : PySem.W.Frag) : Sp := sp1 fun x H Q _ => ∃ f L sp, x = .ref f ∧ LamOk P w K mg base n f L sp ∧ (∀ p ∈ L, H p.1 = some (Fz p.2)) ∧ ∀ E : XK, (∀ cls d H', ToldE K LE cs Q cls d H' → E cls d H') → sp H Q E
theorem rfX_some {r : Rf} {d : Option Addr} {v : V} {k h : Hp} {fs : List (Str × V)} (x : (At v (RfX r d)).p k h) (e : r.fs = some fs) : ∃ dd, d = some dd ∧ h dd = some (.xd fs) := by
  have x : (match r.fs with | some fs => ∃ dd, d = some dd ∧ h dd = some (.xd fs) | none => d = none) := x
  rw [e] at x
  exact x
theorem rfX_none {r : Rf} {d : Option Addr} {v : V} {k h : Hp} (x : (At v (RfX r d)).p k h) (e : r.fs = none) : d = none := by
  have x : (match r.fs with | some fs => ∃ dd, d = some dd ∧ h dd = some (.xd fs) | none => d = none) := x
  rw [e] at x
  exact x
section
variable {P F : List As} {K : PySem.W.Frag} {LE : Addr} {cs : List Addr} {D c a_ p : Addr} {r : Rf} {d : Option Addr} {Q : VK} {σ : L2.St} {i : Nat} {f : Str} {v : V} {xs : List V}
theorem e_isE [t : Take P (.int 95) (RfX r d) F] (R : RfC K LE cs D r.ix) (e : cs[i]? = some c) (k : Ent P (fun H => Q (.bl (decide (i = r.ix))) H)) : Ent P (fun H => rIsE2 K (.ref D) d a_ [.ref a_, .ref c] H Q) := fun H s => by
  refine ⟨D, .ref c, .ref c, _, rfl, R.exc, fun dd ed => ?_, rfl, fun u h => h, R.kit i c e, k H s⟩
  obtain ⟨k2, h, s1, s2, ap, nt, h1, h2, t1, t2, y, x, _⟩ := s.imp t.tk
  cases z : r.fs with
  | none =>
    have x := rfX_none x z
    rw [x] at ed; cases ed
  | some fs =>
    obtain ⟨dd', e1, e2⟩ := rfX_some x z
    rw [ed] at e1; cases e1
    exact ⟨fs, s2 _ _ (t1 _ _ e2)⟩
theorem e_isV [t : Take P (.int 95) (RfX r d) F] (R : RfC K LE cs D r.ix) (k : Ent P (fun H => Q (.bl true) H)) : Ent P (fun H => rIsE2 K (.ref D) d a_ [.ref a_, .ty "ValueError"] H Q) := fun H s => by
  refine ⟨D, .ty "ValueError", .type "ValueError", _, rfl, R.exc, fun dd ed => ?_, rfl, fun u h => h, R.ve, k H s⟩
  obtain ⟨k2, h, s1, s2, ap, nt, h1, h2, t1, t2, y, x, _⟩ := s.imp t.tk
  cases z : r.fs with
  | none =>
    have x := rfX_none x z
    rw [x] at ed; cases ed
  | some fs =>
    obtain ⟨dd', e1, e2⟩ := rfX_some x z
    rw [ed] at e1; cases e1
    exact ⟨fs, s2 _ _ (t1 _ _ e2)⟩
theorem e_xf {fs : List (Str × V)} [t : Take P (.int 95) (RfX r d) F] (hs : σ[i]? = some (some (.ref a_))) (R : RfD K LE cs D r) (e1 : r.fs = some fs) (e2 : fs.lookup f = some v) (k : Ent P (fun H => Q v H)) : Ent P (fun H => tXf2 K a_ (.ref D) d f (tVar i) σ H Q) := fun H s => by
  refine ⟨.ref a_, hs, rfl, D, rfl, R.toRfC.xf, R.no fs e1 f (List.mem_map.mpr ⟨_, PySem.mem_of_lookup e2, rfl⟩), ?_⟩
  obtain ⟨k2, h, s1, s2, ap, nt, h1, h2, t1, t2, y, x, _⟩ := s.imp t.tk
  obtain ⟨dd', e3, e4⟩ := rfX_some x e1
  exact ⟨dd', fs, v, e3, s2 _ _ (t1 _ _ e4), e2, k H s⟩
theorem e_cntF {y : V} {n : Nat} [s : Sees P p (.lst xs)] (fy : flatV y = true) (h : xs.all flatV = true) (e : xs.countP (fun z => eqV z y) = n) (k : Ent P (fun H => Q (.int n) H)) : Ent P (fun H => rCntF K (.ref p) [y] H Q) := fun H t =>
  ⟨p, xs, y, rfl, rfl, SqL.of (s.sees H t), fy, h, by rw [e]; exact k H t⟩
theorem e_idxF {y z : V} {j : Nat} [s : Sees P p (.lst xs)] (fy : flatV y = true) (h : xs.all flatV = true) (e : xs[j]? = some z) (e2 : eqV z y = true) (no : ∀ (m : Nat) (z' : V), m < j → xs[m]? = some z' → eqV z' y = false) (k : Ent P (fun H => Q (.int (j : Nat)) H)) : Ent P (fun H => rIndex K (.ref p) [y] H Q) := fun H t =>
  ⟨p, xs, y, j, z, rfl, rfl, SqL.of (s.sees H t), fy, h, e, e2, no, k H t⟩
end
end Qn

/-! X8: the making of refusals that have fields. -/
namespace Qn
open PySem PySem.Spec PySem.Calls PyProof.Rows L2
/-- an __init__ that stores its fields -/
def spIni (C : Addr) (n : Nat) (fs : List V → List (Str × V)) : Sp := fun vs H Q _ => ∃ e ws, vs = .ref e :: ws ∧ ws.length = n ∧ H e = some (exo e C none) ∧
  ∀ d H', H d = none → d ≠ e → H' e = some (exo e C (some d)) → H' d = some (exd d (fs ws)) → (∀ b, b ≠ e → b ≠ d → H' b = H b) → Q .non H'
theorem spIni_len {C : Addr} {n : Nat} {fs : List V → List (Str × V)} {vs : List V} {H : Hp} {Q : VK} {E : XK} (h : spIni C n fs vs H Q E) : vs.length = n + 1 := by
  obtain ⟨e, ws, rfl, hl, _⟩ := h
  rw [List.length_cons, hl]
def IniOk (P : Program) (w : World) (K : PySem.W.Frag) (mg : Str → Option Value) (base : Heap) (k : Nat) (f : Addr) (ps : List Str) (sp : Sp) : Prop := ∃ fd, FnOk P w K mg base CX0 k f fd ps sp ∧ Binds K fd ps []
/-- C(e, ..) -/
def tRz (C : Addr) (n : Nat) (fs : List V → List (Str × V)) (ta : TA) : L2.St → Hp → XK → Prop := fun σ H Q => ta σ H fun vs H1 => vs.length = n ∧ n ≤ 1000 ∧ ∀ d, H1 d = none → Q (.ref C) (some d) (upd H1 d (.xd (fs vs)))
theorem pmk_rz {X : Cx} {x : Str} {e : Expr} {es : List Expr} {ta : TA} {p pos : Pos} {C fI : Addr} {k n : Nat} {ps names : List Str} {fs : List V → List (Str × V)} (Z : RzF X.K C fI names) (hm : X.mg x = some (.ref C)) (F : IniOk X.prog X.w X.K X.mg X.base k fI ps (spIni C n fs)) (hr : Room (k + 1) X.A) (ha : PA X (e :: es) ta) (hg : Gl X x := by exact rfl)
    (hdb : (x == ("__debug__" : Str)) = false := by decide) (he : starEach (e :: es) X.env = (false, eval e X.env) :: starEach es X.env := by rfl) (hpl : (backTo pos (starEach es X.env)).any (·.1) = false := by rfl) :
    PMk X (.Call (.Name x p) (e :: es) [] pos) (tRz C n fs ta) := by
  obtain ⟨fd, F, b⟩ := F
  intro pins s σ H Q I h
  have ha2 : PA X (e :: es) (fun σ H Q2 => ∃ Qm, ta σ H Qm ∧ ∀ vs H1, Qm vs H1 → Q2 vs H1) := ⟨fun pos pins s σ H Q I h => by
    obtain ⟨Qm, h1, m⟩ := h
    exact thn (ha.run pos pins s σ H Qm I h1) fun us s1 ⟨vs, H1, I1, r, q⟩ => ⟨vs, H1, I1, r, m _ _ q⟩⟩
  refine pmk_oex (dvs := []) Z.oex Z.i Z.ti F hr b .nil pass0 hg hm ha2 hdb he hpl pins s σ H Q I ⟨_, h, fun vs H1 q => ?_⟩
  obtain ⟨hl, hn, q⟩ := q
  refine ⟨by omega, fun a na => ⟨a, vs, by rw [List.append_nil], hl, upd_same, fun d H' n1 n2 h1 h2 h3 => ⟨rfl, d, _, h1, h2, ?_, ?_⟩⟩⟩
  · rw [upd_ne n2] at n1; exact n1
  · have e1 : upd (del H' a) d (.xd (fs vs)) = upd H1 d (.xd (fs vs)) := by
      funext b
      by_cases hb : b = d
      · rw [hb, upd_same, upd_same]
      · rw [upd_ne hb, upd_ne hb]
        by_cases hb2 : b = a
        · rw [hb2, del_same, na]
        · rw [del_ne hb2, h3 b hb2 hb, upd_ne hb2]
    rw [e1]
    refine q d ?_
    rw [upd_ne n2] at n1; exact n1
theorem one_le {α : Type} {x : α} : [x].length ≤ 1000 := by rw [List.length_singleton]; decide
theorem one_le9 {α : Type} {x : α} : [x].length ≤ 900 := by rw [List.length_singleton]; decide
/-- the words of an __init__ -/
theorem rd_ini1 {K : PySem.W.Frag} {C e : Addr} {x : V} {f m : Str} {D : Ends} {H : Hp} (T : OexC K C) (no : PySem.W.findIn K (.ref C) f = some none) (he : H e = some (exo e C none))
    (k : ∀ d H', H d = none → d ≠ e → H' e = some (exo e C (some d)) → H' d = some (exd d [(f, x)]) → (∀ b, b ≠ e → b ≠ d → H' b = H b) → D.nx [some (.ref e), some x] H') :
    tSeq (tDrop (tVeI K (tCons (tVar 0) (tCons (tC (.str m)) tNil)))) (tOst K f (tVar 0) (tVar 1)) D [some (.ref e), some x] H := by
  dsimp only [tSeq, tDrop, tVeI, tCons, tVar, tC, tNil, tOst]
  refine ⟨.ref e, rfl, e, C, [.str m], rfl, one_le, T, he, x, rfl, .ref e, rfl, e, C, rfl, T, no, .inl ⟨he, fun dx n1 n2 => k dx _ n1 n2 upd_same ?_ fun b b1 b2 => by rw [upd_ne b1, upd_ne b2]⟩⟩
  rw [upd_ne n2, upd_same]
theorem rd_ini2 {K : PySem.W.Frag} {C e : Addr} {x y : V} {f g m : Str} {D : Ends} {H : Hp} (T : OexC K C) (no : PySem.W.findIn K (.ref C) f = some none) (no2 : PySem.W.findIn K (.ref C) g = some none) (he : H e = some (exo e C none))
    (k : ∀ d H', H d = none → d ≠ e → H' e = some (exo e C (some d)) → H' d = some (exd d [(g, y), (f, x)]) → (∀ b, b ≠ e → b ≠ d → H' b = H b) → D.nx [some (.ref e), some x, some y] H') :
    tSeq (tDrop (tVeI K (tCons (tVar 0) (tCons (tC (.str m)) tNil)))) (tSeq (tOst K f (tVar 0) (tVar 1)) (tOst K g (tVar 0) (tVar 2))) D [some (.ref e), some x, some y] H := by
  dsimp only [tSeq, tDrop, tVeI, tCons, tVar, tC, tNil, tOst]
  refine ⟨.ref e, rfl, e, C, [.str m], rfl, one_le, T, he, x, rfl, .ref e, rfl, e, C, rfl, T, no, .inl ⟨he, fun dx n1 n2 => ⟨y, rfl, .ref e, rfl, e, C, rfl, T, no2, .inr ⟨dx, [(f, x)], upd_same, ?_, one_le9, ?_⟩⟩⟩⟩
  · rw [upd_ne n2, upd_same]
  · refine k dx _ n1 n2 ?_ upd_same fun b b1 b2 => by rw [upd_ne b2, upd_ne b1, upd_ne b2]
    rw [upd_ne (Ne.symm n2), upd_same]
end Qn

/-! X9: refusals by parts; works that are refused; a class of data, told. -/
namespace Qn
open PySem PySem.Spec PySem.Calls PyProof.Rows L2
/-- the parts that end a list of parts -/
class Suf (P F : List As) (X : outParam (List As)) : Prop where
  eq : P = X ++ F
instance (priority := 900) suf_here {F : List As} : Suf F F [] := ⟨rfl⟩
instance (priority := 100) suf_cons {A : As} {P F X : List As} [s : Suf P F X] : Suf (A :: P) F (A :: X) := ⟨by rw [s.eq]; rfl⟩
/-- a work that is refused, over F -/
def WorkOk (K : PySem.W.Frag) (LE : Addr) (cs : List Addr) (F : List As) (r : Rf) (sp : Hp → VK → XK → Prop) : Prop :=
  ∀ (X : List As) (Q : VK) (E : XK), (∀ C d, RfD K LE cs C r → Ent (At (.int 95) (RfX r d) :: (X ++ F)) (fun H => E (.ref C) d H)) → Ent (X ++ F) (fun H => sp H Q E)
/-- .. for E, over what stands -/
def RfE (K : PySem.W.Frag) (LE : Addr) (cs : List Addr) (P : List As) (r : Rf) (E : XK) : Prop := ∀ C d, RfD K LE cs C r → Ent (At (.int 95) (RfX r d) :: P) (fun H => E (.ref C) d H)
section
variable {P F X : List As} {K : PySem.W.Frag} {LE C : Addr} {cs : List Addr} {r : Rf} {Q : VK} {E : XK} {Pr : Program} {w : World} {mg : Str → Option Value} {base : Heap} {n : Nat} {sp : Hp → VK → XK → Prop} {v : V} {f : Addr} {vs : List V} {fs : List V → List (Str × V)}
theorem sat_rf {H : Hp} {d : Addr} {l : List (Str × V)} (s : Sat P H) (e : r.fs = some l) (n : H d = none) : Sat (At (.int 95) (RfX r (some d)) :: P) (upd H d (.xd l)) :=
  s.new n (show (RfX r (some d) (.int 95)).p hnil (upd hnil d (.xd l)) from by
    show (match r.fs with | some fs => ∃ dd, some d = some dd ∧ upd hnil d (.xd l) dd = some (.xd fs) | none => some d = none)
    rw [e]
    exact ⟨d, rfl, upd_same⟩) fun xs z => by cases z
theorem sat_rf0 {H : Hp} (s : Sat P H) (e : r.fs = none) : Sat (At (.int 95) (RfX r none) :: P) H := by
  obtain ⟨k, h, s1, s2, ap, nt, y⟩ := s
  refine ⟨k, h, s1, s2, ap, nt, hnil, h, same_nil, Same.refl _, apart_nil, ?_, y⟩
  show (match r.fs with | some fs => ∃ dd, none = some dd ∧ hnil dd = some (.xd fs) | none => (none : Option Addr) = none)
  rw [e]
/-- a refusal with fields is raised -/
theorem e_rz {m : Nat} {l : List (Str × V)} (R : RfD K LE cs C r) (e : r.fs = some l) (hl : vs.length = m) (hm : m ≤ 1000) (k : RfE K LE cs P r E) : Ent P (fun H1 => vs.length = m ∧ m ≤ 1000 ∧ ∀ d, H1 d = none → E (.ref C) (some d) (upd H1 d (.xd l))) := fun H s =>
  ⟨hl, hm, fun d nd => k C (some d) R _ (sat_rf s e nd)⟩
/-- one without -/
theorem e_rz0 (R : RfD K LE cs C r) (e : r.fs = none) (k : RfE K LE cs P r E) : Ent P (fun H1 => E (.ref C) none H1) := fun H s => k C none R _ (sat_rf0 s e)
theorem RfE.drop {P' : List As} (k : RfE K LE cs P r E) [m : Imp P' P] : RfE K LE cs P' r E := fun C d R H s => k C d R H (s.imp fun k h x => SatL.cons m.imp x)
/-- what is told of a work that is refused -/
theorem e_toldW {E : XK} [sf : Suf P F X] {F' : List As} [t : Take P (.ref f) (LamX Pr w K mg base n sp) F'] (wk : WorkOk K LE cs F r sp) (k : ∀ t, Ent (At (.ref t) (KTup r.v) :: P) (fun H => Q (.ref t) H)) : Ent P (fun H => sp_law_told Pr w mg base n LE cs K [.ref f] H Q E) := fun H s => by
  obtain ⟨k2, h, s1, s2, ap, nt, h1, h2, t1, t2, y, ⟨f', L, e, hL, lam⟩, _⟩ := s.imp t.tk
  cases e
  refine ⟨.ref f, rfl, f, L, sp, rfl, lam, fun p hp => s1 _ _ (hL p hp), ?_⟩
  have eP := sf.eq
  subst eP
  exact fun E hE => wk X Q E (fun C d R H' s' => hE _ _ _ ⟨r, X ++ F, C, rfl, R, s', k⟩) H s
/-- .. of one that answers -/
theorem e_toldQ {E : XK} {F' : List As} [t : Take P (.ref f) (LamX Pr w K mg base n sp) F'] (k : ∀ E : XK, (∀ cls d H', ToldE K LE cs Q cls d H' → E cls d H') → Ent P (fun H => sp H Q E)) : Ent P (fun H => sp_law_told Pr w mg base n LE cs K [.ref f] H Q E) := fun H s => by
  obtain ⟨k2, h, s1, s2, ap, nt, h1, h2, t1, t2, y, ⟨f', L, e, hL, lam⟩, _⟩ := s.imp t.tk
  cases e
  exact ⟨.ref f, rfl, f, L, sp, rfl, lam, fun p hp => s1 _ _ (hL p hp), fun E hE => k E hE H s⟩
end
/-! ### classes of data -/
def tyD : PyData → String
  | .none => "NoneType"
  | .bool _ => "bool"
  | .int _ => "int"
  | .str _ => "str"
  | .list _ => "list"
  | .tuple _ => "tuple"
  | _ => "?"
/-- isinstance of data, of a class T of these -/
def isD (d : PyData) (T : String) : Bool := tyD d == T || (tyD d == "bool" && T == "int")
theorem r_isiD {K : PySem.W.Frag} {H : Hp} {Q : VK} {x : V} {d : PyData} {T : String} (hT : T = "int" ∨ T = "bool" ∨ T = "str" ∨ T = "tuple" ∨ T = "list") (h : Dp K H x d) (k : Q (.bl (isD d T)) H) : rIsi K [x, .ty T] H Q := by
  cases h with
  | non => rcases hT with rfl | rfl | rfl | rfl | rfl <;> exact Rd.by_ k
  | bl b => rcases hT with rfl | rfl | rfl | rfl | rfl <;> exact Rd.by_ k
  | int i => rcases hT with rfl | rfl | rfl | rfl | rfl <;> exact Rd.by_ k
  | str i => rcases hT with rfl | rfl | rfl | rfl | rfl <;> exact Rd.by_ k
  | lst hs ha =>
    rcases hT with rfl | rfl | rfl | rfl | rfl
    · exact r_isi_list_int hs k
    · exact r_isi_list_bool hs k
    · exact r_isi_list_str hs k
    · exact r_isi_list_tuple hs k
    · exact r_isi_list_list hs k
  | tup hs ha =>
    rcases hT with rfl | rfl | rfl | rfl | rfl
    · exact r_isi_tuple_int hs k
    · exact r_isi_tuple_bool hs k
    · exact r_isi_tuple_str hs k
    · exact r_isi_tuple_tuple hs k
    · exact r_isi_tuple_list hs k
end Qn

/-! X10: data that stand as they are, by parts. -/
namespace Qn
open PySem PySem.Spec PySem.Calls PyProof.Rows L2
mutual
inductive Pd (k : Hp) : V → PyData → Prop where
  | non : Pd k .non .none
  | bl (b : Bool) : Pd k (.bl b) (.bool b)
  | int (i : Int) : Pd k (.int i) (.int i)
  | str (s : Str) : Pd k (.str s) (.str s)
  | lst {p : Addr} {vs : List V} {ds : List PyData} (e : k p = some (.lst vs)) (r : PdAll k vs ds) : Pd k (.ref p) (.list ds)
  | tup {p : Addr} {vs : List V} {ds : List PyData} (e : k p = some (.tup vs)) (r : PdAll k vs ds) : Pd k (.ref p) (.tuple ds)
inductive PdAll (k : Hp) : List V → List PyData → Prop where
  | nil : PdAll k [] []
  | cons {v : V} {vs : List V} {d : PyData} {ds : List PyData} (x : Pd k v d) (r : PdAll k vs ds) : PdAll k (v :: vs) (d :: ds)
end
mutual
theorem Pd.mono {k k' : Hp} (s : Same k k') : ∀ {v : V} {d : PyData}, Pd k v d → Pd k' v d
  | _, _, .non => .non
  | _, _, .bl b => .bl b
  | _, _, .int i => .int i
  | _, _, .str x => .str x
  | _, _, .lst e r => .lst (s _ _ e) (PdAll.mono s r)
  | _, _, .tup e r => .tup (s _ _ e) (PdAll.mono s r)
theorem PdAll.mono {k k' : Hp} (s : Same k k') : ∀ {vs : List V} {ds : List PyData}, PdAll k vs ds → PdAll k' vs ds
  | _, _, .nil => .nil
  | _, _, .cons x r => .cons (Pd.mono s x) (PdAll.mono s r)
end
mutual
theorem Pd.dp {K : PySem.W.Frag} {k : Hp} : ∀ {v : V} {d : PyData}, Pd k v d → Dp K k v d
  | _, _, .non => .non
  | _, _, .bl b => .bl b
  | _, _, .int i => .int i
  | _, _, .str x => .str x
  | _, _, .lst e r => .lst (SqL.of e) (PdAll.dp r)
  | _, _, .tup e r => .tup (SqT.of e) (PdAll.dp r)
theorem PdAll.dp {K : PySem.W.Frag} {k : Hp} : ∀ {vs : List V} {ds : List PyData}, PdAll k vs ds → DpAll K k vs ds
  | _, _, .nil => .nil
  | _, _, .cons x r => .cons (Pd.dp x) (PdAll.dp r)
end
theorem PdAll.len {k : Hp} : ∀ {vs : List V} {ds : List PyData}, PdAll k vs ds → vs.length = ds.length
  | _, _, .nil => rfl
  | _, _, .cons _ r => by rw [List.length_cons, List.length_cons, PdAll.len r]
theorem PdAll.get {k : Hp} {vs : List V} {ds : List PyData} {d : PyData} (h : PdAll k vs ds) : ∀ {i : Nat}, ds[i]? = some d → ∃ v, vs[i]? = some v ∧ Pd k v d := by
  induction ds generalizing vs with
  | nil => intro i e; cases e
  | cons c cs ih =>
    intro i e
    cases h with
    | cons x r =>
      cases i with
      | zero => cases e; exact ⟨_, rfl, x⟩
      | succ i => exact ih r e
theorem PdAll.map {k : Hp} {α : Type} {f : α → V} {g : α → PyData} {xs : List α} (h : ∀ x ∈ xs, Pd k (f x) (g x)) : PdAll k (xs.map f) (xs.map g) := by
  induction xs with
  | nil => exact .nil
  | cons x r ih => exact .cons (h x List.mem_cons_self) (ih fun y hy => h y (List.mem_cons_of_mem _ hy))
theorem PdAll.app {k : Hp} : ∀ {vs ws : List V} {ds es : List PyData}, PdAll k vs ds → PdAll k ws es → PdAll k (vs ++ ws) (ds ++ es)
  | _, _, _, _, .nil, h => h
  | _, _, _, _, .cons x r, h => .cons x (PdAll.app r h)
theorem PdAll.take {k : Hp} : ∀ {vs : List V} {ds : List PyData} (n : Nat), PdAll k vs ds → PdAll k (vs.take n) (ds.take n)
  | _, _, 0, _ => by rw [List.take_zero, List.take_zero]; exact .nil
  | _, _, n + 1, .nil => .nil
  | _, _, n + 1, .cons x r => .cons x (PdAll.take n r)
theorem PdAll.drop {k : Hp} : ∀ {vs : List V} {ds : List PyData} (n : Nat), PdAll k vs ds → PdAll k (vs.drop n) (ds.drop n)
  | _, _, 0, h => h
  | _, _, n + 1, .nil => .nil
  | _, _, n + 1, .cons x r => PdAll.drop n r
/-- data, standing -/
def PDat (d : PyData) : Ty := fun v => ⟨fun k _ => Pd k v d, fun s x => x.mono s⟩
def PDats (vs : List V) (ds : List PyData) : Ty := fun _ => ⟨fun k _ => PdAll k vs ds, fun s x => x.mono s⟩
instance pers_pd {d : PyData} : Pers (PDat d) := ⟨fun _ _ _ x => x⟩
instance pers_pds {vs : List V} {ds : List PyData} : Pers (PDats vs ds) := ⟨fun _ _ _ x => x⟩
class HasP (P : List As) (v : V) (d : outParam PyData) : Prop where
  has : ∀ k h, SatL P k h → Pd k v d
class HasPs (P : List As) (vs : List V) (ds : outParam (List PyData)) : Prop where
  has : ∀ k h, SatL P k h → PdAll k vs ds
section
variable {P F : List As} {v : V} {d : PyData} {vs : List V} {ds : List PyData} {p : Addr} {K : PySem.W.Frag} {Q : VK} {X : Hp → Prop} {ns : List Int}
instance hp_int {i : Int} : HasP P (.int i) (.int i) := ⟨fun _ _ _ => .int i⟩
instance hp_bl {i : Bool} : HasP P (.bl i) (.bool i) := ⟨fun _ _ _ => .bl i⟩
instance hp_str {i : Str} : HasP P (.str i) (.str i) := ⟨fun _ _ _ => .str i⟩
instance hp_non : HasP P .non .none := ⟨fun _ _ _ => .non⟩
instance hp_nil : HasPs P [] [] := ⟨fun _ _ _ => .nil⟩
instance hp_cons [h : HasP P v d] [t : HasPs P vs ds] : HasPs P (v :: vs) (d :: ds) := ⟨fun k g s => .cons (h.has k g s) (t.has k g s)⟩
instance hp_ints : HasPs P (ns.map V.int) (ns.map .int) := ⟨fun _ _ _ => PdAll.map fun i _ => .int i⟩
theorem satL_take {P F : List As} {v : V} {Y : Ty} {k h : Hp} (t : Take P v Y F) (s : SatL P k h) : ∃ h1, (At v Y).p k h1 := by
  obtain ⟨h1, h2, _, _, _, y, _⟩ := t.tk k h s
  exact ⟨h1, y⟩
instance (priority := 1100) hp_pd [t : Take P v (PDat d) F] : HasP P v d := ⟨fun k h s => by
  obtain ⟨h1, y⟩ := satL_take t s
  exact y⟩
instance (priority := 900) hp_tup [t : Take P (.ref p) (KTup vs) F] [r : HasPs P vs ds] : HasP P (.ref p) (.tuple ds) := ⟨fun k h s => by
  obtain ⟨h1, q, e, y⟩ := satL_take t s
  cases e
  exact .tup y (r.has k h s)⟩
instance (priority := 900) hp_lst [t : Take P (.ref p) (KLst vs) F] [r : HasPs P vs ds] : HasP P (.ref p) (.list ds) := ⟨fun k h s => by
  obtain ⟨h1, q, e, y⟩ := satL_take t s
  cases e
  exact .lst y (r.has k h s)⟩
instance (priority := 1100) hp_pds [t : Take P (.int 72) (PDats vs ds) F] : HasPs P vs ds := ⟨fun k h s => by
  obtain ⟨h1, y⟩ := satL_take t s
  exact y⟩
instance hp_bV {b : Option Int} : HasP P (bV b) (match b with | none => .none | some i => .int i) := ⟨fun _ _ _ => by cases b with | none => exact .non | some i => exact .int i⟩
instance hp_app {ws : List V} {es : List PyData} [h : HasPs P vs ds] [g : HasPs P ws es] : HasPs P (vs ++ ws) (ds ++ es) := ⟨fun k z s => PdAll.app (h.has k z s) (g.has k z s)⟩
instance hp_take {n : Nat} [h : HasPs P vs ds] : HasPs P (vs.take n) (ds.take n) := ⟨fun k z s => PdAll.take n (h.has k z s)⟩
instance hp_drop {n : Nat} [h : HasPs P vs ds] : HasPs P (vs.drop n) (ds.drop n) := ⟨fun k z s => PdAll.drop n (h.has k z s)⟩
instance hp_rep {n : Nat} [h : HasPs P vs ds] : HasPs P (List.replicate n vs).flatten (List.replicate n ds).flatten := ⟨fun k z s => by
  induction n with
  | zero => exact .nil
  | succ n ih =>
    rw [List.replicate_succ, List.flatten_cons, List.replicate_succ, List.flatten_cons]
    exact PdAll.app (h.has k z s) ih⟩
theorem e_pdPair {x : Int × Int} [t : Take P v (PDat (.tuple [.int x.1, .int x.2])) F] (k : ∀ p, v = .ref p → Ent (At (.ref p) (KTup [.int x.1, .int x.2]) :: P) X) : Ent P X := fun H s => by
  obtain ⟨k0, h0, s1, s2, ap, nt, z⟩ := s
  obtain ⟨h1, y⟩ := satL_take t z
  have y : Pd k0 v (.tuple [.int x.1, .int x.2]) := y
  cases y with
  | tup e r =>
    cases r with
    | cons a1 r =>
      cases r with
      | cons a2 r =>
        cases r
        cases a1
        cases a2
        exact k _ rfl H ⟨k0, h0, s1, s2, ap, nt, hnil, h0, same_nil, Same.refl _, apart_nil, ⟨_, rfl, e⟩, z⟩
instance (priority := 1050) hp_pds3 [t : Take P (.int 73) (PDats vs ds) F] : HasPs P vs ds := ⟨fun k h s => by
  obtain ⟨h1, y⟩ := satL_take t s
  exact y⟩
theorem Sat.knowP {A : As} {H : Hp} (s : Sat P H) (f : ∀ k h, SatL P k h → A.p k hnil) : Sat (A :: P) H := s.imp fun k h x => ⟨hnil, h, same_nil, Same.refl _, apart_nil, f k h x, x⟩
theorem e_pd (v : V) [i : HasP P v d] (k : Ent (At v (PDat d) :: P) X) : Ent P X := fun H s => k H (s.knowP fun k h x => i.has k h x)
theorem e_pdI (v : V) {d : PyData} (iv : ∀ k : Hp, Pd k v d) (k : Ent (At v (PDat d) :: P) X) : Ent P X := fun H s => k H (s.knowP fun k h x => iv k)
theorem e_pds (vs : List V) [i : HasPs P vs ds] (k : Ent (At (.int 72) (PDats vs ds) :: P) X) : Ent P X := fun H s => k H (s.knowP fun k h x => i.has k h x)
/-- opened -/
theorem e_pdT [t : Take P v (PDat (.tuple ds)) F] (k : ∀ p vs, v = .ref p → vs.length = ds.length → Ent (At (.ref p) (KTup vs) :: At (.int 72) (PDats vs ds) :: P) X) : Ent P X := fun H s => by
  have s0 := s
  obtain ⟨k0, h0, s1, s2, ap, nt, x⟩ := s
  obtain ⟨h1, y⟩ := satL_take t x
  have y : Pd k0 v (.tuple ds) := y
  cases y with
  | tup e r =>
    refine k _ _ rfl r.len H ⟨k0, h0, s1, s2, ap, nt, hnil, h0, same_nil, Same.refl _, apart_nil, ⟨_, rfl, e⟩, hnil, h0, same_nil, Same.refl _, apart_nil, r, x⟩
theorem e_pdL [t : Take P v (PDat (.list ds)) F] (k : ∀ p vs, v = .ref p → vs.length = ds.length → Ent (At (.ref p) (KLst vs) :: At (.int 72) (PDats vs ds) :: P) X) : Ent P X := fun H s => by
  have s0 := s
  obtain ⟨k0, h0, s1, s2, ap, nt, x⟩ := s
  obtain ⟨h1, y⟩ := satL_take t x
  have y : Pd k0 v (.list ds) := y
  cases y with
  | lst e r =>
    refine k _ _ rfl r.len H ⟨k0, h0, s1, s2, ap, nt, hnil, h0, same_nil, Same.refl _, apart_nil, ⟨_, rfl, e⟩, hnil, h0, same_nil, Same.refl _, apart_nil, r, x⟩
theorem e_pdAt {i : Nat} [t : Take P (.int 72) (PDats vs ds) F] (e : ds[i]? = some d) (k : ∀ v, vs[i]? = some v → Ent (At v (PDat d) :: P) X) : Ent P X := fun H s => by
  have s0 := s
  obtain ⟨k0, h0, s1, s2, ap, nt, x⟩ := s
  obtain ⟨h1, y⟩ := satL_take t x
  have y : PdAll k0 vs ds := y
  obtain ⟨v, e1, e2⟩ := y.get e
  exact k v e1 H ⟨k0, h0, s1, s2, ap, nt, hnil, h0, same_nil, Same.refl _, apart_nil, e2, x⟩
/-- the value of data that are no cell -/
theorem e_pdV [t : Take P v (PDat d) F] (k : (∃ H, Pd H v d) → Ent P X) : Ent P X := fun H s => by
  have s0 := s
  obtain ⟨k0, h0, s1, s2, ap, nt, x⟩ := s
  obtain ⟨h1, y⟩ := satL_take t x
  exact k ⟨k0, y⟩ H s0
theorem e_isiP {T : String} [t : Take P v (PDat d) F] (hT : T = "int" ∨ T = "bool" ∨ T = "str" ∨ T = "tuple" ∨ T = "list") (k : Ent P (fun H => Q (.bl (isD d T)) H)) : Ent P (fun H => rIsi K [v, .ty T] H Q) := fun H s => by
  have s0 := s
  obtain ⟨k0, h0, s1, s2, ap, nt, x⟩ := s
  obtain ⟨h1, y⟩ := satL_take t x
  have y : Pd k0 v d := y
  exact r_isiD hT (dp_sub s1 y.dp) (k H s0)
theorem e_inTupX {x : V} {xs : List V} {neg b : Bool} [s : Sees P p (.tup xs)] (h1 : flatV x = true) (h2 : xs.all flatV = true) (e : (if neg then !inV x xs else inV x xs) = b) (k : Ent P (fun H => Q (.bl b) H)) : Ent P (fun H => rIn K neg x (.ref p) H Q) := fun H h =>
  r_in (.inr (SqT.of (s.sees H h))) h1 h2 (by rw [e]; exact k H h)
theorem hp_rf {r : Rf} {k h : Hp} {t : Addr} (s : SatL (At (.ref t) (KTup r.v) :: P) k h) : Pd k (.ref t) r.d := by
  obtain ⟨h1, q, e, y⟩ := satL_take (take_here (P := P)) s
  cases e
  cases r with
  | rules p l => exact .tup y (.cons (.str _) (.cons (.int _) (.cons (.int _) .nil)))
  | _ => exact .tup y (.cons (.str _) (.cons (.int _) .nil))
theorem e_pdRf {r : Rf} {t : Addr} (k : Ent (At (.ref t) (PDat r.d) :: P) X) : Ent (At (.ref t) (KTup r.v) :: P) X := fun H s => k H ((s.knowP (A := At (.ref t) (PDat r.d)) fun k h x => hp_rf x).imp fun k h x => by
  obtain ⟨h1, h2, s1, s2, ap, y, h3, h4, t1, t2, aq, z, w⟩ := x
  exact ⟨hnil, h4, same_nil, t2.trans s2, apart_nil, y, w⟩)
end
/-- works that are refused alike, in a list -/
def sp_law_all (Pr : Program) (w : World) (mg : Str → Option Value) (base : Heap) (n : Nat) (LE : Addr) (cs : List Addr) (K : PySem.W.Frag) : Sp := sp2 fun x y H Q _ => ∃ (p : Addr) (fs : List Addr) (r : Rf) (F : List As), x = .ref p ∧ fs.length ≤ 100 ∧ Sat (At (.ref p) (KLst (fs.map V.ref)) :: At y (PDat (Rf.d r)) :: F) H ∧
  (∀ f ∈ fs, ∃ sp F', Take F (.ref f) (LamX Pr w K mg base n sp) F' ∧ WorkOk K LE cs F r sp) ∧ Ent F (fun H => Q (.bl true) H)
end Qn

/-! X11: lambdas that are refused. -/
namespace Qn
open PySem PySem.Spec PySem.Calls PyProof.Rows L2
theorem satL_mid {A : As} {F : List As} : ∀ {X : List As} {k h : Hp}, SatL (X ++ A :: F) k h → SatL (A :: (X ++ F)) k h
  | [], _, _, s => s
  | B :: X, k, h, s => (SatL.cons (P := X ++ A :: F) (P' := A :: (X ++ F)) (fun k h x => satL_mid x) s).swap
theorem satL_back {A : As} {F : List As} : ∀ {X : List As} {k h : Hp}, SatL (A :: (X ++ F)) k h → SatL (X ++ A :: F) k h
  | [], _, _, s => s
  | B :: X, k, h, s => SatL.cons (P := A :: (X ++ F)) (P' := X ++ A :: F) (fun k h x => satL_back x) (SatL.swap s)
theorem satL_behind {F : List As} : ∀ {X : List As} {k h : Hp}, SatL (X ++ F) k h → ∃ h', SatL F k h'
  | [], _, h, s => ⟨h, s⟩
  | B :: X, k, h, s => by
    obtain ⟨h1, h2, _, _, _, _, r⟩ := s
    exact satL_behind (X := X) r
theorem satL_under {F G : List As} (f : ∀ k h, SatL F k h → SatL G k h) : ∀ {X : List As} {k h : Hp}, SatL (X ++ F) k h → SatL (X ++ G) k h
  | [], _, _, s => f _ _ s
  | B :: X, k, h, s => SatL.cons (P := X ++ F) (P' := X ++ G) (fun k h x => satL_under f x) s
instance (priority := 90) take_behind {X F F' : List As} {v : V} {Y : Ty} [t : Take F v Y F'] : Take (X ++ F) v Y (X ++ F') := ⟨fun k h s => satL_mid (satL_under (fun k h x => t.tk k h x) s)⟩
section
variable {K : PySem.W.Frag} {LE : Addr} {cs : List Addr} {r : Rf} {os : List (Addr × Obj)} {cl : List (Str × Addr)} {ys : List Str} {vals : List V} {t : XK → TE} {F F0 X P : List As} {E : XK} {Q : VK} {v : V} {d : PyData}
theorem workLam {σ : L2.St} (hs : vals.map some = σ) (osf : OsFor cl os) (hl : vals.length = ys.length) (cv : ∀ (i : Nat) y v, ys[i]? = some y → vals[i]? = some v → CelV cl os y v)
    (hb : ∀ (X : List As) (E : XK) (Q : VK), RfE K LE cs (X ++ F0) r E → Ent (X ++ F0) (fun H => t E σ H Q)) : WorkOk K LE cs (At (.int 90) (CelsX os) :: F0) r (spLam cl ys t) := fun X Q E hE => by
  subst hs
  refine Ent.mono (P' := At (.int 90) (CelsX os) :: (X ++ F0)) ?_ fun k h s => satL_mid s
  refine e_spLam osf hl cv (hb X _ _ fun C d R => e_plusE ((hE C d R).mono fun k h s => ?_))
  have s2 : SatL (At (.int 95) (RfX r d) :: At (.int 90) (CelsX os) :: (X ++ F0)) k h := SatL.swap s
  exact SatL.cons (fun k h x => satL_back x) s2
theorem RfE.up {A : As} (k : RfE K LE cs P r E) : RfE K LE cs (A :: P) r E := fun C d R H s => k C d R H (s.imp fun k h x => SatL.cons (P := A :: P) (P' := P) (fun k h y => by
  obtain ⟨h1, h2, s1, s2, ap, _, z⟩ := y
  exact z.up s2) x)
theorem e_lamQ {X : Cx} {Pr : Program} {w : World} {mg : Str → Option Value} {base : Heap} {n m : Nat} {Pt : Addr} {q : Str} {σ : L2.St} (h : X.prog = Pr ∧ X.w = w ∧ X.K = K ∧ X.mg = mg ∧ X.base = base ∧ X.env.qual = q ∧ X.env.cells = cl ∧ m = n + 1) [tk : Take P (.int 60) (TabX Pt (q ++ "<lambda>")) F]
    (k : ∀ f, Ent (At (.ref f) (LamX Pr w K mg base m (spLam cl ys t)) :: At (.int 60) (TabX Pt (q ++ "<lambda>")) :: F) (fun H => Q (.ref f) H)) : Ent P (fun H => tLamN X n Pt ys t σ H Q) := by
  obtain ⟨rfl, rfl, rfl, rfl, rfl, rfl, rfl, rfl⟩ := h
  exact e_lamN k
theorem e_lam1 {X : Cx} {n : Nat} {Pt : Addr} {td : TE} {σ : L2.St} (k : Ent P (fun H => td σ H fun _ H1 => tLamN X n Pt ys t σ H1 Q)) : Ent P (fun H => tLam1 X n Pt ys td t σ H Q) := k
def kCut (os : List (Addr × Obj)) (Y : Hp → Prop) (H' : Hp) : Prop := OsIn os H' → Y (cutC os H')
theorem e_kCut {Y : Hp → Prop} (e : Ent P Y) : Ent (At v (CelsX os) :: P) (fun H' => kCut os Y H') := fun H s _ => e _ s.cutC.2
def kCallC (cl : List (Str × Addr)) (N : List Str) (sc : Scope) (σ : L2.St) (sp : Sp) (Q : VK) (vs : List V) (H1 : Hp) : Prop := ∀ os, OsFor cl os → (∀ (i : Nat) y v, N[i]? = some y → σ[i]? = some (some v) → sc.names.lookup y = some .cell → CelV cl os y v) → OsOut os H1 →
  sp vs (plusC os H1) (fun v H' => kCut os (Q v) H') (fun _ _ _ => False)
theorem e_tCallC {X : Cx} {sp : Sp} {ta : TA} {σ : L2.St} {N : List Str} {sc : Scope} (h : X.env.cells = cl ∧ X.N = N ∧ X.env.scope = sc) (k : Ent P (fun H => ta σ H fun vs H1 => kCallC cl N sc σ sp Q vs H1)) : Ent P (fun H => tCallC X sp ta σ H Q) := by
  obtain ⟨rfl, rfl, rfl⟩ := h
  exact k
theorem e_callQ {sp : Sp} {vs : List V} {σ : L2.St} {N : List Str} {sc : Scope} (k : ∀ os, OsFor cl os → (∀ (i : Nat) y v, N[i]? = some y → σ[i]? = some (some v) → sc.names.lookup y = some .cell → CelV cl os y v) →
      Ent (At (.int 90) (CelsX os) :: P) (fun H => sp vs H (fun v H' => kCut os (Q v) H') (fun _ _ _ => False))) : Ent P (fun H1 => kCallC cl N sc σ sp Q vs H1) := fun H s os osf cv out => k os osf cv _ (s.plusC out)
theorem e_lall {Pr : Program} {w : World} {mg : Str → Option Value} {base : Heap} {n : Nat} {p : Addr} {y : V} {E : XK} (fs : List Addr) (r : Rf) (F : List As) [im : Imp P (At (.ref p) (KLst (fs.map V.ref)) :: At y (PDat r.d) :: F)] (hl : fs.length ≤ 100)
    (hfs : ∀ f ∈ fs, ∃ sp F', Take F (.ref f) (LamX Pr w K mg base n sp) F' ∧ WorkOk K LE cs F r sp) (k : Ent F (fun H => Q (.bl true) H)) : Ent P (fun H => sp_law_all Pr w mg base n LE cs K [.ref p, y] H Q E) := fun H s => ⟨.ref p, y, rfl, p, fs, r, F, rfl, hl, s.imp im.imp, hfs, k⟩
theorem e_lallP {Pr : Program} {w : World} {mg : Str → Option Value} {base : Heap} {n : Nat} {p : Addr} {y : V} {E : XK} {P1 P2 : List As} (fs : List Addr) (r : Rf) [t1 : Take P (.ref p) (KLst (fs.map V.ref)) P1] [t2 : Take P y (PDat r.d) P2] (hl : fs.length ≤ 100)
    (hfs : ∀ f ∈ fs, ∃ sp F', Take P (.ref f) (LamX Pr w K mg base n sp) F' ∧ WorkOk K LE cs P r sp) (k : Ent P (fun H => Q (.bl true) H)) : Ent P (fun H => sp_law_all Pr w mg base n LE cs K [.ref p, y] H Q E) := fun H s =>
  ⟨.ref p, y, rfl, p, fs, r, P, rfl, hl, (s.knowP (A := At y (PDat r.d)) fun k h x => by
    obtain ⟨h1, z⟩ := satL_take t2 x
    exact z).knowP fun k h x => by
    obtain ⟨h1, z⟩ := satL_take t1 x.tail
    exact z, hfs, k⟩
theorem pd_behind {k h : Hp} {F' : List As} [t : Take F0 v (PDat d) F'] (x : SatL (X ++ F0) k h) : Pd k v d := by
  obtain ⟨h', y⟩ := satL_behind x
  obtain ⟨h1, z⟩ := satL_take t y
  exact z
end
end Qn

/-! Q19: a tuple times a number that may be 0 or 1. -/
namespace Qn
open PySem PySem.Spec PyProof.Rows L2
section
variable {l : Addr} {its : List Value} {n : Nat} {dd : Option Addr} {sl : Array (Option Value)} {k : Int} {tk : Tok}
/-- the same tuple -/
theorem tupMul_same (h0 : (decide (k < -(2 ^ 63)) || decide (k ≥ 2 ^ 63)) = false) (h1 : (its.toArray.isEmpty || k == 1) = true) :
    Meets (Builtin.«tuple.__mul__» ⟨[.ref l, .int k tk], []⟩) (fun _ R s => s.heap.get? l = some ⟨.type "tuple", dd, .seq its.toArray n, sl⟩ ∧ R (.ok (.ret (.ref l))) s) :=
  .of_wp fun prog w A R s z => by
    obtain ⟨hp, g, d, t0, os⟩ := s
    obtain ⟨at_, fin⟩ := z
    have f1 := AutoSeq1.idx_int
    wp_walk using wpAny_loadPart' at_
    repeat (first
      | (refine wpAny_ite_false (decide_eq_false (by rw [h0]; simp)) ?_; wp_walk using wpAny_loadPart' at_)
      | (refine wpAny_ite_true (decide_eq_true (by rw [h1])) ?_; wp_walk using wpAny_loadPart' at_))
    all_goals first | exact fin | exact ⟨_, rfl, fin⟩ | trace_state
/-- an empty one -/
theorem tupMul_none (h0 : (decide (k < -(2 ^ 63)) || decide (k ≥ 2 ^ 63)) = false) (h1 : (its.toArray.isEmpty || k == 1) = false) (h2 : (decide (k ≤ 0) || its.toArray.isEmpty) = true) :
    Meets (Builtin.«tuple.__mul__» ⟨[.ref l, .int k tk], []⟩) (fun _ R s => s.heap.get? l = some ⟨.type "tuple", dd, .seq its.toArray n, sl⟩ ∧ R (.ok (.ret (.ref s.heap.objs.size))) { s with heap := s.heap.push { cls := .type "tuple", data := .seq #[] }, toks := s.toks }) :=
  .of_wp fun prog w A R s z => by
    obtain ⟨hp, g, d, t0, os⟩ := s
    obtain ⟨at_, fin⟩ := z
    have f1 := AutoSeq1.idx_int
    wp_walk using wpAny_loadPart' at_
    repeat (first
      | (refine wpAny_ite_false (decide_eq_false (by rw [h0]; simp)) ?_; wp_walk using wpAny_loadPart' at_)
      | (refine wpAny_ite_false (decide_eq_false (by rw [h1]; simp)) ?_; wp_walk using wpAny_loadPart' at_)
      | (refine wpAny_ite_true (decide_eq_true (by rw [h2])) ?_; wp_walk using wpAny_loadPart' at_))
    all_goals first | exact fin | exact ⟨_, rfl, fin⟩ | trace_state
end
theorem e_powC {P : List As} {i j : Int} {Q : VK} (h : CPow i j) (k : Ent P (fun H => Q (.int (i ^ j.toNat)) H)) : Ent P (fun H => rI CPow (fun i j => V.int (i ^ j.toNat)) (.int i) (.int j) H Q) := fun H s => ⟨i, j, rfl, rfl, h, k H s⟩
theorem cpow18 : CPow 10 18 := ⟨by decide, by decide, by decide⟩
/-- t * k, k not less than 0: t itself where k is 1 or t is empty -/
def rRepTA (K : PySem.W.Frag) : R2 := fun x y H Q => ∃ l k xs, x = .ref l ∧ y = .int k ∧ SqT K H l xs ∧ 0 ≤ k ∧ k ≤ 1000 ∧ xs.length ≤ 1000 ∧
  (xs = [] ∨ k = 1 → Q (.ref l) H) ∧ (¬ (xs = [] ∨ k = 1) → ∀ p, H p = none → Q (.ref p) (upd H p (.tup (List.replicate k.toNat xs).flatten)))
theorem op_repTA {X : Cx} : OpR X (binaryOp .Mult) (rRepTA X.K) := by
  intro pins s σ H x y v u Q I rx ry h
  obtain ⟨l, k, xs, rfl, rfl, hT, k0, k1, hz, q1, q2⟩ := h
  by_cases h2 : xs ≠ [] ∧ 2 ≤ k
  · exact op_repT pins s σ H _ _ v u Q I rx ry ⟨l, k, xs, rfl, rfl, hT, h2.1, h2.2, k1, hz, q2 (fun z => z.elim h2.1 fun z => by omega)⟩
  cases rx
  obtain ⟨tk, rfl⟩ := ry
  obtain ⟨its, r, ⟨⟨cls, dd, data, sl⟩, ho, hc, n, hd⟩, hs⟩ := I.tuple hT
  simp only at hc hd
  subst hc hd
  have hle : its.length = xs.length := r.length.symm
  have c0 : (decide (k < -(2 ^ 63)) || decide (k ≥ 2 ^ 63)) = false := by
    rw [decide_eq_false (by omega), decide_eq_false (by omega)]; rfl
  by_cases h3 : xs = [] ∨ k = 1
  · have c1 : (its.toArray.isEmpty || k == 1) = true := by
      rcases h3 with z | z
      · rw [z] at hle
        have : its = [] := List.eq_nil_of_length_eq_zero hle
        rw [this]; rfl
      · rw [z]; simp
    refine wpAny_binaryOp_repeat_ref (T := "tuple") (U := "int") (by decide) ⟨_, ho, rfl⟩ (fun s' => typeIs_int s' k tk) noFill_tuple_mul F.fills_int_mul F.slot_int_rmul repeat_tuple F.slot_int_index.lookup ?_
    refine call_meets F.slot_int_rmul (typeIs_int s k tk) F.entry_int_rmul (F.args_int_rmul_2 _ _) (int_rmul_tuple k tk l its.toArray n dd sl) ?_
    refine ⟨ho, rfl, ⟨_, ho, rfl⟩, ?_⟩
    refine call_meets F.slot_tuple_mul ⟨_, ho, rfl⟩ F.entry_tuple_mul (F.args_tuple_mul_2 _ _) (tupMul_same c0 c1) ⟨ho, ?_⟩
    exact ⟨.ref l, H, I, rfl, q1 h3⟩
  · have hk : k = 0 := by
      have : ¬ (2 ≤ k) := fun z => h2 ⟨fun e => h3 (.inl e), z⟩
      have : k ≠ 1 := fun e => h3 (.inr e)
      omega
    have hn : xs ≠ [] := fun e => h3 (.inl e)
    have hi : its.toArray.isEmpty = false := by
      cases its with
      | nil => exact absurd (List.eq_nil_of_length_eq_zero hle.symm) hn
      | cons a b => rfl
    have c1 : (its.toArray.isEmpty || k == 1) = false := by rw [hi, hk]; rfl
    have c2 : (decide (k ≤ 0) || its.toArray.isEmpty) = true := by rw [hk]; rfl
    refine wpAny_binaryOp_repeat_ref (T := "tuple") (U := "int") (by decide) ⟨_, ho, rfl⟩ (fun s' => typeIs_int s' k tk) noFill_tuple_mul F.fills_int_mul F.slot_int_rmul repeat_tuple F.slot_int_index.lookup ?_
    refine call_meets F.slot_int_rmul (typeIs_int s k tk) F.entry_int_rmul (F.args_int_rmul_2 _ _) (int_rmul_tuple k tk l its.toArray n dd sl) ?_
    refine ⟨ho, rfl, ⟨_, ho, rfl⟩, ?_⟩
    refine call_meets F.slot_tuple_mul ⟨_, ho, rfl⟩ F.entry_tuple_mul (F.args_tuple_mul_2 _ _) (tupMul_none c0 c1 c2) ⟨ho, ?_⟩
    have e0 : (List.replicate k.toNat xs).flatten = [] := by rw [hk]; rfl
    have q3 := q2 h3
    rw [e0] at q3
    refine ⟨.ref s.heap.objs.size, _, I.laid (t' := s.toks) (o := .tup []) (fun b ob q => Heap.get?_push_of_some _ q) (Nat.le_refl _) ?_, rfl, q3 _ (I.hok.fresh (Nat.le_refl _))⟩
    exact ⟨by simp, [], .nil, IsTup.new _ _⟩
section
variable {P : List As} {K : PySem.W.Frag} {p q : Addr} {xs ys : List V} {Q : VK} {X : Hp → Prop}
theorem e_knowT (p : Addr) [s : Sees P p (.tup xs)] (k : Ent (At (.ref p) (KTup xs) :: P) X) : Ent P X := fun H z =>
  k H (z.learn (k2 := upd hnil p (.tup xs)) (fun b o e => by
    by_cases h : b = p
    · rw [h, upd_same] at e; cases e; rw [h]; exact s.sees H z
    · rw [upd_ne h] at e; cases e) (fun b hb => by
    by_cases h : b = p
    · exact ⟨xs, by rw [h, upd_same]⟩
    · exact absurd (by rw [upd_ne h]; rfl) hb) ⟨p, rfl, upd_same⟩)
theorem e_repTA {k : Int} [s : Sees P p (.tup xs)] (h0 : 0 ≤ k) (h1 : k ≤ 1000) (hz : xs.length ≤ 1000) (g : ∀ q, Ent (At (.ref q) (KTup (List.replicate k.toNat xs).flatten) :: P) (fun H => Q (.ref q) H)) : Ent P (fun H => rRepTA K (.ref p) (.int k) H Q) := fun H z => by
  refine ⟨p, k, xs, rfl, rfl, SqT.of (s.sees H z), h0, h1, hz, fun h => ?_, fun _ q nq => g q _ (z.newK nq ⟨q, rfl, upd_same⟩)⟩
  have e : (List.replicate k.toNat xs).flatten = xs := by
    rcases h with h | h
    · rw [h]; simp
    · rw [h]; simp
  have g' := g p
  rw [e] at g'
  exact e_knowT p g' H z
theorem e_catTA [s : Sees P p (.tup xs)] [s2 : Sees P q (.tup ys)] (hz : xs.length + ys.length ≤ 100000) (g : ∀ r, Ent (At (.ref r) (KTup (xs ++ ys)) :: P) (fun H => Q (.ref r) H)) : Ent P (fun H => rCatA K (.ref p) (.ref q) H Q) := fun H z => by
  refine ⟨p, q, xs, ys, rfl, rfl, SqT.of (s.sees H z), SqT.of (s2.sees H z), by rw [sizeLine_eq]; omega, fun h => ?_, fun _ h => ?_, fun _ _ r nr => g r _ (z.newK nr ⟨r, rfl, upd_same⟩)⟩
  · subst h
    exact e_knowT q (g q) H z
  · have g' := g p
    subst h
    rw [List.append_nil] at g'
    exact e_knowT p g' H z
theorem cutV_all {lo hi : Option Int} (h : HT.sIx xs.length 0 lo = 0 ∧ HT.sIx xs.length xs.length hi = xs.length) : cutV xs lo hi = xs := by
  unfold cutV
  rw [h.1, h.2]
  simp
theorem e_slTA {lo hi : Option Int} [s : Sees P p (.tup xs)] (g : ∀ r, Ent (At (.ref r) (KTup (cutV xs lo hi)) :: P) (fun H => Q (.ref r) H)) : Ent P (fun H => rSlA K (.ref p) lo hi H Q) := fun H z => by
  refine ⟨p, xs, rfl, SqT.of (s.sees H z), fun h => ?_, fun _ r nr => g r _ (z.newK nr ⟨r, rfl, upd_same⟩)⟩
  have g' := g p
  rw [cutV_all h] at g'
  exact e_knowT p g' H z
end
end Qn

/-! Q12: every second item of a tuple. -/
namespace Qn
open PySem PySem.Spec L2 PyProof.Rows HT
/-- the first, the third, .. -/
def alt {α : Type} : List α → List α
  | [] => []
  | [x] => [x]
  | x :: _ :: r => x :: alt r
theorem alt_pick {α : Type} : ∀ xs : List α, ((List.range ((xs.length + 1) / 2)).filterMap fun m => xs[m * 2]?) = alt xs
  | [] => by simp [alt]
  | [x] => by
    rw [show ([x].length + 1) / 2 = 1 by simp]
    rfl
  | x :: y :: r => by
    have ih := alt_pick r
    rw [show ((x :: y :: r).length + 1) / 2 = (r.length + 1) / 2 + 1 by simp only [List.length_cons]; omega, List.range_succ_eq_map, List.filterMap_cons_some (f := fun m => (x :: y :: r)[m * 2]?) (b := x) rfl, List.filterMap_map]
    show x :: _ = x :: alt r
    rw [← ih]
    congr 1
    have ef : ((fun m => (x :: y :: r)[m * 2]?) ∘ Nat.succ) = fun m => r[m * 2]? := by
      funext m
      show (x :: y :: r)[(m + 1) * 2]? = r[m * 2]?
      rw [show (m + 1) * 2 = m * 2 + 1 + 1 by omega]
      rfl
    rw [ef]
theorem alt_len {α : Type} : ∀ xs : List α, (alt xs).length ≤ xs.length
  | [] => Nat.le_refl _
  | [_] => Nat.le_refl _
  | _ :: _ :: r => by
    have := alt_len r
    simp only [alt, List.length_cons]
    omega
theorem alt_map {α β : Type} (f : α → β) : ∀ xs : List α, alt (xs.map f) = (alt xs).map f
  | [] => rfl
  | [_] => rfl
  | x :: y :: r => by
    show f x :: alt (r.map f) = f x :: (alt r).map f
    rw [alt_map f r]
theorem Vals.alt : ∀ {xs : List V} {us : List Value}, Vals xs us → Vals (Qn.alt xs) (Qn.alt us)
  | _, _, .nil => .nil
  | _, _, .cons r .nil => .cons r .nil
  | _, _, .cons r (.cons _ h) => .cons r (Vals.alt h)
section
variable {prog : Program} {w : World} {A : Around} {E : Value → Shared → Prop} {s : Shared}
theorem adjust_two (lo : Option Int) (n : Nat) : Builtin.Slice.sliceAdjust lo none 2 (n : Int) = (((sIx n 0 lo : Nat) : Int), (n : Int)) := by
  have h1 : ¬ ((2 : Int) < 0) := by omega
  unfold Builtin.Slice.sliceAdjust
  simp only [h1, if_false]
  refine Prod.ext ?_ rfl
  cases lo with
  | none => rfl
  | some v => exact clip_eq v n 0
theorem places_two (i n : Nat) (h : i ≤ n) : Builtin.Slice.slicePlaces (i : Int) (n : Int) 2 = (n - i + 1) / 2 := by
  unfold Builtin.Slice.slicePlaces
  have h1 : (2 : Int) > 0 := by omega
  simp only [h1, if_true]
  split <;> omega
theorem sliceApplied_two {sl : Addr} {vl : Value} {u : Tok} {lo : Option Int} {n : Nat} {Q : Int × Int × Nat → Shared → Prop} (hs : s.heap.IsSliceOf sl vl .none (.int 2 u)) (pl : IsPart vl lo)
    (h : Q (((sIx n 0 lo : Nat) : Int), 2, (n - sIx n 0 lo + 1) / 2) s) : wpAny (model prog w) A (Builtin.Slice.sliceApplied (.ref sl) (pure (n : Int))) Q E s := by
  obtain ⟨os, hos, hcs, hds⟩ := id hs
  unfold Builtin.Slice.sliceApplied Builtin.Slice.sliceFields
  refine wpAny_bind (wpAny_bind (wpAny_field hos hds (x := vl) rfl (wpAny_bind (wpAny_field hos hds (x := .none) rfl (wpAny_bind (wpAny_field hos hds (x := .int 2 u) rfl (wpAny_pure ?_)))))))
  refine wpAny_bind (slicePart_int ?_)
  show wpAny _ _ (if ((2 : Int) == 0) = true then _ else _) _ _ s
  rw [if_neg (by decide)]
  refine wpAny_bind (slicePart_ pl (wpAny_bind (slicePart_none (wpAny_bind (wpAny_pure ?_)))))
  show wpAny _ _ (match Builtin.Slice.sliceAdjust lo none 2 (n : Int) with | (lo, hi) => pure (lo, (2 : Int), Builtin.Slice.slicePlaces lo hi 2)) _ _ s
  rw [adjust_two lo n]
  show wpAny _ _ (pure (((sIx n 0 lo : Nat) : Int), (2 : Int), Builtin.Slice.slicePlaces ((sIx n 0 lo : Nat) : Int) (n : Int) 2)) _ _ s
  rw [places_two _ _ (sIx_le _ _ (Nat.zero_le _) lo)]
  exact wpAny_pure h
theorem getItem_tuple_two {t sl : Addr} {items : Array Value} {vl : Value} {u : Tok} {lo : Option Int} {Q : Value → Shared → Prop} (ht : IsTup s.heap t items) (hs : s.heap.IsSliceOf sl vl .none (.int 2 u)) (pl : IsPart vl lo)
    (h : Q (.ref s.heap.objs.size) { s with heap := s.heap.push { cls := .type "tuple", data := .seq (alt (items.toList.drop (sIx items.size 0 lo))).toArray } })
    (hsz : items.size ≤ sizeLine) : wpAny (model prog w) A (getItem (.ref t) (.ref sl)) Q E s := by
  have htake : sizeOk (.seq (alt (items.toList.drop (sIx items.size 0 lo))).toArray) := by
    show (alt (items.toList.drop (sIx items.size 0 lo))).toArray.size ≤ sizeLine
    rw [List.size_toArray]
    refine Nat.le_trans (alt_len _) ?_
    rw [List.length_drop, Array.length_toList]
    omega
  have hj : sIx items.size 0 lo ≤ items.size := sIx_le _ _ (Nat.zero_le _) lo
  obtain ⟨os, hos, hcs, hds⟩ := id hs
  have hTs : s.TypeIs (.ref sl) "slice" := ⟨os, hos, hcs⟩
  unfold getItem
  try with_reducible refine wpAny_holding ?_
  first | refine wpAny_bind (wpAny_pure ?_) | skip
  refine wpAny_bind (wpAny_sequenceKey ht.typeIs (by decide) ?_)
  refine wpAny_bind (wpAny_callSpecial?_slot (name := Str.ofString "__getitem__") ht.typeIs PyProof.Rows.slot_tuple_getitem
    (wpAny_call_entry PyProof.Rows.slot_tuple_getitem ht.typeIs entry_tuple_getitem ?_ (args_tuple_getitem _ _)))
  show wpAny _ _ (Builtin.Tuple.tupleItemsOf (.ref t) >>= _) _ _ s
  refine wpAny_bind (tupleItemsOf_ ht ?_)
  refine wpAny_bind (wpAny_typeOf hTs ?_)
  rw [if_pos (by decide)]
  refine wpAny_bind (sliceApplied_two hs pl ?_)
  have hno : ¬ ((((sIx items.size 0 lo : Nat) : Int) == 0 && (2 : Int) == 1 && ((items.size - sIx items.size 0 lo + 1) / 2) == items.size) = true) := by
    intro q
    rw [Bool.and_eq_true, Bool.and_eq_true] at q
    exact absurd q.1.2 (by decide)
  show wpAny _ _ (if (((sIx items.size 0 lo : Nat) : Int) == 0 && (2 : Int) == 1 && ((items.size - sIx items.size 0 lo + 1) / 2) == items.size) = true then _ else _) _ _ s
  have hp : ((List.range ((items.size - sIx items.size 0 lo + 1) / 2)).filterMap fun (m : Nat) => items[(((sIx items.size 0 lo : Nat) : Int) + (m : Int) * 2).toNat]?).toArray = (alt (items.toList.drop (sIx items.size 0 lo))).toArray := by
    rw [← alt_pick]
    congr 1
    rw [List.length_drop, Array.length_toList]
    congr 1
    funext m
    have : (((sIx items.size 0 lo : Nat) : Int) + (m : Int) * 2).toNat = sIx items.size 0 lo + m * 2 := by omega
    rw [this, List.getElem?_drop, Array.getElem?_toList]
  rw [if_neg hno, hp]
  first
    | exact wpAny_bind (m := Builtin.Tuple.tupleExact _) (wpAny_newObj_type (wpAny_pure ⟨_, rfl, wpAny_pure h⟩) htake)
    | exact wpAny_bind (m := Builtin.Tuple.tupleExact _) (wpAny_newObj_type (wpAny_bind (wpAny_pure (wpAny_pure ⟨_, rfl, wpAny_pure h⟩))) htake)
    | exact wpAny_bind (wpAny_bind (m := Builtin.Tuple.tupleExact _) (wpAny_newObj_type (wpAny_pure (wpAny_pure ⟨_, rfl, wpAny_pure h⟩)) htake))
    | exact wpAny_bind (wpAny_bind (m := Builtin.Tuple.tupleExact _) (wpAny_newObj_type (wpAny_pure ⟨_, rfl, wpAny_pure h⟩) htake))
end
section
variable {X : Cx} {e : Expr} {te : TE} {lo : Option Expr} {tl : TO} {pos p1 p3 : Pos} {k : Nat}
/-- t[lo::2] -/
def rTwo (K : PySem.W.Frag) : V → Option Int → Hp → VK → Prop := fun x lo H Q => ∃ a xs, x = .ref a ∧ SqT K H a xs ∧ ∀ p, H p = none → Q (.ref p) (upd H p (.tup (alt (xs.drop (HT.sIx xs.length 0 lo)))))
def tTwo (K : PySem.W.Frag) (te : TE) (tl : TO) : TE := fun σ H Q => te σ H fun x H1 => tl σ H1 fun l H2 => rTwo K x l H2 Q
theorem qe_sliceStep (he : PE X e te) (hl : PO X lo tl) : PE X (.Subscript e (.Slice lo none (some (.Constant (.int 2) k p1)) p3) pos) (tTwo X.K te tl) := by
  refine ⟨fun pins s σ H Q I h => ?_⟩
  refine Subscript_ (thn (he.run pins s σ H _ I h) fun v s1 ⟨x, H1, I1, r1, q1⟩ => ?_)
  have hst : PO X (some (.Constant (.int 2) k p1)) (tPart (tC (.int 2))) := po_some pe_int
  refine wpAny_Slice (thn (hl.run pins s1 σ H1 _ I1 q1) fun vl s2 ⟨l, H2, I2, pl, q2⟩ => ?_)
  refine thn (po_none.run pins s2 σ H2 (fun o H3 => o = none ∧ H3 = H2) I2 ⟨rfl, rfl⟩) fun vu s3 ⟨u, H3, I3, pu, eu, e3⟩ => ?_
  subst eu e3
  refine thn (hst.run pins s3 σ H3 (fun o H4 => o = some 2 ∧ H4 = H3) I3 ⟨2, rfl, rfl, rfl⟩) fun vs s4 ⟨o, H4, I4, ps, eo, e4⟩ => ?_
  subst eo e4
  have I5 : Inv X pins σ H4 { s4 with heap := s4.heap.push { cls := .type "slice", data := .fields #[vl, vu, vs] } } := I4.kept (t' := s4.toks) fun b ob q => Heap.get?_push_of_some _ q
  obtain ⟨a, xs, ex, hx, q⟩ := q2
  subst ex
  cases r1
  cases pu
  cases ps with
  | int _ u =>
  obtain ⟨its, r, ht, hz⟩ := I5.tuple hx
  have hlen : its.toArray.size = xs.length := by rw [List.size_toArray]; exact r.length.symm
  show wpAny (model X.prog X.w) X.A (subscriptTail e (.Slice lo none (some (.Constant (.int 2) k p1)) p3) (.ref a) (.ref s4.heap.objs.size)) (EP X pins σ Q) X.xe { s4 with heap := s4.heap.push { cls := .type "slice", data := .fields #[vl, .none, .int 2 u] } }
  refine tail_any (ops := [.ref a, .ref s4.heap.objs.size]) ht.typeIs (PyProof.Rows.slot_tuple_getitem.lookup) ?_ (by with_unfolding_all rfl)
  refine getItem_tuple_two ht (Heap.IsSliceOf.new _ vl .none (.int 2 u)) pl ?_ (by rw [hlen]; exact hz)
  rw [hlen]
  refine ⟨.ref _, _, I5.laid (t' := s4.toks) (o := .tup (alt (xs.drop (HT.sIx xs.length 0 l)))) (fun b ob q => Heap.get?_push_of_some _ q) (Nat.le_refl _) ?_, rfl, q _ (I5.hok.fresh (Nat.le_refl _))⟩
  exact ⟨Nat.le_trans (alt_len _) (by rw [List.length_drop]; omega), _, Vals.alt (r.drop (HT.sIx xs.length 0 l)), IsTup.new _ _⟩
end
section
variable {K : PySem.W.Frag} {H : Hp} {Q : VK} {te : TE} {tl : TO} {σ : L2.St} {P : List As} {p : Addr} {xs : List V} {lo : Option Int}
instance rd_two : Rd (tTwo K te tl σ H Q) (te σ H fun x H1 => tl σ H1 fun l H2 => rTwo K x l H2 Q) := ⟨id⟩
theorem e_two {ys : List V} [s : Sees P p (.tup xs)] (hy : alt (xs.drop (HT.sIx xs.length 0 lo)) = ys) (hl : ys.length ≤ 1000) (k : ∀ q, Ent (At (.ref q) (KTup ys) :: P) (fun H => Q (.ref q) H)) : Ent P (fun H => rTwo K (.ref p) lo H Q) :=
  fun H h => ⟨p, xs, rfl, SqT.of (s.sees H h), fun q nq => by rw [hy]; exact k q _ (h.newK nq ⟨q, rfl, upd_same⟩)⟩
end
end Qn

/-! Q13: sum and min of a tuple of numbers. -/
namespace Qn
open PySem PySem.Spec PySem.W L2 PyProof.Rows
section
variable {prog : Program} {w : World} {A : Around} {E : Value → Shared → Prop} {s : Shared} {l : Addr} {its : List Value} {ns : List Int} {Q : Value → Shared → Prop}
theorem sum_rawT (hh : A.handled = none) (hl : s.heap.IsTuple l its.toArray) (hi : IntsAre its ns)
    (h : ∀ h' tk t', (∀ b o, s.heap.get? b = some o → h'.get? b = some o) → Q (.int ns.sum t') { s with heap := h', toks := tk }) : wpAny (model prog w) A (call (.builtin "sum") [.ref l]) Q E s := by
  obtain ⟨xs, e⟩ := hi.allInts.items
  have hn : numsOf (intItems xs).toList = ns := by rw [← e]; exact hi.numsOf
  rw [nums_intItems] at hn
  rw [e] at hl
  refine PySem.W.ktm_sumG hh hl fun h' tk t' hk => ?_
  have := h h' tk t' hk
  rw [preSum_eq, List.take_of_length_le (by simp), hn]; exact this
theorem min_rawT (hh : A.handled = none) (hl : s.heap.IsTuple l its.toArray) (hi : IntsAre its ns) (hne : 0 < ns.length)
    (h : ∀ h' tk M t', (∀ b o, s.heap.get? b = some o → h'.get? b = some o) → M ∈ ns → (∀ a, a ∈ ns → M ≤ a) → Q (.int M t') { s with heap := h', toks := tk }) : wpAny (model prog w) A (call (.builtin "min") [.ref l]) Q E s := by
  obtain ⟨xs, e⟩ := hi.allInts.items
  have hn : numsOf (intItems xs).toList = ns := by rw [← e]; exact hi.numsOf
  rw [nums_intItems] at hn
  subst hn
  rw [e] at hl
  have hsz : 0 < xs.size := by simpa using hne
  have hiz : (intItems xs).size = xs.size := by simp [intItems]
  refine call_min_walkH (iter_tupleW (A := A.in1) hh hl fun s₂ e W st hfp hw hk => ?_)
  refine ⟨_, _, _, _, _, _, _, s.heap, _, rfl, W, st, hfp, by rw [hiz]; exact hsz, hw, hk, (fun i j vi vj s Q E _ hi hj h => CmpOf.ints_lt (numAt xs) (fun _ _ => intItems_at) i j vi vj s Q E hi hj h), fun v s' hP m => ?_⟩
  obtain ⟨h', tk, rfl, hk'⟩ := moved_old e rfl m
  rw [hiz] at hP
  obtain ⟨t, rfl⟩ := intItems_at hP
  obtain ⟨h1, h2⟩ := argBest_lt (numAt xs) (xs.size - 1)
  refine h h' tk _ t hk' ?_ fun a ha => ?_
  · rw [numAt_eq]; exact PySem.getD_mem (by rw [List.length_map, Array.length_toList]; omega)
  · obtain ⟨j, hj, rfl⟩ := mem_getD ha
    rw [List.length_map, Array.length_toList] at hj
    rw [← numAt_eq]; exact h2 j (by omega)
end
section
variable {X : Cx}
def rSumT (K : PySem.W.Frag) : List V → Hp → VK → Prop := fun vs H Q => ∃ (a : Addr) (ns : List Int), vs = [V.ref a] ∧ SqT K H a (ns.map V.int) ∧ Q (.int ns.sum) H
def rMinT (K : PySem.W.Frag) : List V → Hp → VK → Prop := fun vs H Q => ∃ (a : Addr) (ns : List Int), vs = [V.ref a] ∧ SqT K H a (ns.map V.int) ∧ 0 < ns.length ∧ ∀ m, m ∈ ns → (∀ y, y ∈ ns → m ≤ y) → Q (.int m) H
theorem cr_sumT (hc : X.calm = true) : CallR X (.builtin "sum") (rSumT X.K) := by
  intro pins s σ H vs us Q I r h
  obtain ⟨a, ns, rfl, hs, q⟩ := h
  obtain ⟨its, rv, hl, _⟩ := I.tuple hs
  rw [Vals.ref1 r]
  exact sum_rawT (I.ok.hd hc) hl rv.ints fun h' tk t' hk => ⟨.int _, H, I.kept hk, ⟨_, rfl⟩, q⟩
theorem cr_minT (hc : X.calm = true) : CallR X (.builtin "min") (rMinT X.K) := by
  intro pins s σ H vs us Q I r h
  obtain ⟨a, ns, rfl, hs, hne, q⟩ := h
  obtain ⟨its, rv, hl, _⟩ := I.tuple hs
  rw [Vals.ref1 r]
  exact min_rawT (I.ok.hd hc) hl rv.ints hne fun h' tk m t' hk h1 h2 => ⟨.int _, H, I.kept hk, ⟨_, rfl⟩, q m h1 h2⟩
end
section
variable {K : PySem.W.Frag} {Q : VK} {P : List As} {p : Addr} {ns : List Int}
theorem e_sumT {n : Int} [s : Sees P p (.tup (ns.map V.int))] (hn : ns.sum = n) (k : Ent P (fun H => Q (.int n) H)) : Ent P (fun H => rSumT K [.ref p] H Q) := fun H h => ⟨p, ns, rfl, SqT.of (s.sees H h), by rw [hn]; exact k H h⟩
theorem e_minT [s : Sees P p (.tup (ns.map V.int))] (hn : 0 < ns.length) (k : ∀ m, m ∈ ns → (∀ y, y ∈ ns → m ≤ y) → Ent P (fun H => Q (.int m) H)) : Ent P (fun H => rMinT K [.ref p] H Q) := fun H h => ⟨p, ns, rfl, SqT.of (s.sees H h), hn, fun m h1 h2 => k m h1 h2 H h⟩
end
def sp5 (F : V → V → V → V → V → Hp → VK → XK → Prop) : Sp := fun vs H Q E => ∃ x y z u v, vs = [x, y, z, u, v] ∧ F x y z u v H Q E
section
variable {vs : List V} {H : Hp} {Q : VK} {E : XK}
theorem sp5_len {F : V → V → V → V → V → Hp → VK → XK → Prop} {p q r t n : Str} (h : sp5 F vs H Q E) : vs.length = [p, q, r, t, n].length := by obtain ⟨_, _, _, _, _, rfl, _⟩ := h; rfl
theorem sp5_mk {F : V → V → V → V → V → Hp → VK → XK → Prop} {x y z u v : V} (h : F x y z u v H Q E) : sp5 F [x, y, z, u, v] H Q E := ⟨x, y, z, u, v, rfl, h⟩
end
end Qn

/-! Q14: (a number, a tuple of numbers) < another one. -/
namespace Qn
open PySem L2 PySem.Spec PyProof.Rows
def rLtIT (K : PySem.W.Frag) : R2 := fun x y H Q => ∃ (a b p q : Addr) (i j : Int) (ns ms : List Int), x = .ref a ∧ y = .ref b ∧ SqT K H a [.int i, .ref p] ∧ SqT K H b [.int j, .ref q] ∧ SqT K H p (ns.map V.int) ∧ SqT K H q (ms.map V.int) ∧
  SeqAt.shaped (.tuple (ns.map .int)) = true ∧ SeqAt.shaped (.tuple (ms.map .int)) = true ∧ Q (.bl (if i = j then HT.lexLt ns ms else decide (i < j))) H
theorem eqv_intsT {xs ys : List Int} : PyData.eqv (.tuple (xs.map .int)) (.tuple (ys.map .int)) = decide (xs = ys) := by
  show PyData.eqvAll (xs.map .int) (ys.map .int) = _
  induction xs generalizing ys with
  | nil => cases ys <;> simp [PyData.eqvAll]
  | cons x xs ih =>
    cases ys with
    | nil => simp [PyData.eqvAll]
    | cons y ys =>
      simp only [List.map_cons, PyData.eqvAll, ih, PyData.eqv]
      by_cases e : x = y <;> by_cases e2 : xs = ys <;> simp [e, e2]
theorem lexLt_same : ∀ xs : List Int, HT.lexLt xs xs = false
  | [] => rfl
  | x :: xs => by unfold HT.lexLt; rw [if_pos rfl]; exact lexLt_same xs
theorem op_ltIT {X : Cx} (hu : X.A.units + 64 + 2 < cLine) : OpR X (compareOp .Lt) (rLtIT X.K) := by
  intro pins s σ H x y v u Q I rx ry h
  obtain ⟨a, b, p, q, i, j, ns, ms, rfl, rfl, ha, hb, hp, hq, sd, se, k⟩ := h
  cases rx
  cases ry
  obtain ⟨its, r1, p1, _⟩ := I.tuple ha
  obtain ⟨its2, r2, p2, _⟩ := I.tuple hb
  obtain ⟨jts, r3, p3, _⟩ := I.tuple hp
  obtain ⟨jts2, r4, p4, _⟩ := I.tuple hq
  have i3 : IntsAre jts.toArray.toList ns := intsAre_of r3
  have i4 : IntsAre jts2.toArray.toList ms := intsAre_of r4
  obtain ⟨t1, rfl⟩ : ∃ t1, its = [.int i t1, .ref p] := by
    cases r1 with
    | cons z1 r1 =>
      cases r1 with
      | cons z2 r1 =>
        cases r1
        obtain ⟨t1, rfl⟩ := z1
        cases z2
        exact ⟨t1, rfl⟩
  obtain ⟨t2, rfl⟩ : ∃ t2, its2 = [.int j t2, .ref q] := by
    cases r2 with
    | cons z1 r1 =>
      cases r1 with
      | cons z2 r1 =>
        cases r1
        obtain ⟨t1, rfl⟩ := z1
        cases z2
        exact ⟨t1, rfl⟩
  obtain ⟨as, d1⟩ := Dp.reads I (.tuple (ns.map .int)) (.ref p) (.ref p) (.tup hp (dpAll_map fun n _ => .int n)) rfl
  obtain ⟨bs, d2⟩ := Dp.reads I (.tuple (ms.map .int)) (.ref q) (.ref q) (.tup hq (dpAll_map fun n _ => .int n)) rfl
  have R := Ob.RcOp.tuples_lt (A := X.A) (s := s) (e := fun n => if n = 0 then i == j else decide (ns = ms)) (r := fun n => if n = 0 then decide (i < j) else HT.lexLt ns ms) p1 p2 (by omega) (fun n h1 h2 => by
    match n, h1, h2 with
    | 0, _, _ => exact SeqAt.EqAt.int_int _ _ _ _
    | 1, _, _ =>
      show SeqAt.EqAt X.A.in1 s (.ref p) (.ref q) (decide (ns = ms))
      by_cases e : p = q
      · subst e
        have : ns = ms := by
          have h0 := congrArg (List.map fun v => match v with | V.int n => n | _ => 0) (I.tuple_inj hp hq)
          rw [List.map_map, List.map_map] at h0
          have e1 : ((fun v => match v with | V.int n => n | _ => 0) ∘ V.int) = fun n : Int => n := rfl
          rw [e1] at h0
          simpa using h0
        rw [decide_eq_true this]
        exact SeqAt.EqAt.same _
      · rw [← eqv_intsT]
        exact SeqAt.EqAt.of_refs e fun prog w E Q hq => SeqAt.compareEq_shaped d1 d2 sd se (by show X.A.units + 1 + 64 < cLine; omega) hq
    | n + 2, h1, _ => simp at h1; omega) (fun n h1 h2 _ => by
    match n, h1, h2 with
    | 0, _, _ => exact Ob.RcOp.lt_int _ _ _ _
    | 1, _, _ => exact fun prog w E Q hq => HT.lt_tupInts p3 p4 i3 i4 (by show X.A.units + 1 < cLine; omega) hq
    | n + 2, h1, _ => simp at h1; omega)
  refine R _ _ _ _ ?_
  refine ⟨.bl _, H, I, rfl, ?_⟩
  have e : Ob.lexAt (fun n => if n = 0 then i == j else decide (ns = ms)) (fun n => if n = 0 then decide (i < j) else HT.lexLt ns ms) (decide (([Value.int i t1, .ref p] : List Value).toArray.size < ([Value.int j t2, .ref q] : List Value).toArray.size)) 0 (min ([Value.int i t1, .ref p] : List Value).toArray.size ([Value.int j t2, .ref q] : List Value).toArray.size) = if i = j then HT.lexLt ns ms else decide (i < j) := by
    show Ob.lexAt _ _ false 0 2 = _
    rw [Ob.lexAt_succ]
    by_cases e1 : i = j
    · subst e1
      simp only [if_pos rfl, beq_self_eq_true]
      rw [Ob.lexAt_succ]
      simp only [Nat.zero_add, Nat.one_ne_zero, if_false]
      by_cases e2 : ns = ms
      · subst e2
        simp only [decide_true, if_pos rfl, Ob.lexAt_zero]
        exact (lexLt_same ns).symm
      · simp [decide_eq_false e2]
    · have : (i == j) = false := beq_eq_false_iff_ne.mpr e1
      simp [this, e1]
  rw [e]
  exact k
theorem room_units2 {k : Nat} {A : Around} (r : Room k A) : A.units + 64 + 2 < cLine := by have := r.un; omega
end Qn

/-! Q17: texts. -/
namespace Qn
open PySem L2 PySem.Spec PyProof.Rows
def oAddS : R2 := fun x y H Q => ∃ i j : Str, x = .str i ∧ y = .str j ∧ i.length + j.length ≤ sizeLine ∧ Q (.str (i ++ j)) H
theorem qo_addS {X : Cx} : OpR X (binaryOp .Add) oAddS := op_add_str
def rInS : R2 := fun x y H Q => ∃ (c : Nat) (z : Str), x = .str ⟨#[c]⟩ ∧ y = .str z ∧ Q (.bl (decide (c ∈ z.cps.toList))) H
theorem qo_inS {X : Cx} : OpR X (compareOp .In) rInS := op_in_sign
def cStr : List V → Hp → VK → Prop := fun xs H Q => (∃ i : Int, xs = [.int i] ∧ i.natAbs.log2 < 1920 ∧ Q (.str (toString i)) H) ∨ ∃ a, xs = [.str a] ∧ Q (.str a) H
theorem cr_str {X : Cx} : CallR X (.type "str") cStr := call_str_int.or SkE.call_str_str
def cIntS : List V → Hp → VK → Prop := fun xs H Q => ∃ (a : Str) (n : Int), xs = [.str a] ∧ PySem.intText? a = some n ∧ a.length ≤ 640 ∧ Q (.int n) H
theorem cr_intS {X : Cx} : CallR X (.type "int") cIntS := call_int_str
def cLenS : List V → Hp → VK → Prop := fun xs H Q => ∃ z : Str, xs = [.str z] ∧ z.length ≤ sizeLine ∧ Q (.int z.length) H
theorem cr_lenS {X : Cx} : CallR X (.builtin "len") cLenS := call_len_str
def rSplit : V → List V → Hp → VK → Prop := fun x xs H Q => ∃ a b : Str, x = .str a ∧ xs = [.str b] ∧ (b.length == 0) = false ∧ a.length + 2 ≤ sizeLine ∧ rNewStrs (Txt.split a b) H Q
def rJoin (K : PySem.W.Frag) : V → List V → Hp → VK → Prop := fun x xs H Q => ∃ (a : Str) (p : Addr) (ys : List Str), x = .str a ∧ xs = [.ref p] ∧ (SqL K H p (ys.map V.str) ∨ SqT K H p (ys.map V.str)) ∧ (ys.map (·.length)).sum + ys.length * a.length ≤ 16777216 ∧ Q (.str (Txt.join a ys)) H
section
variable {X : Cx} {o e : Expr} {to te : TE} {apos pos : Pos}
theorem qe_split (ho : PE X o to) (he : PE X e te) (hs : starEach [e] X.env = [(false, eval e X.env)] := by rfl) (hb : attributeBase o "split" X.env (eval o X.env) = eval o X.env := by rfl) (hl : (apos.endLine == pos.line) = true := by rfl) :
    PE X (.Call (.Attribute o "split" apos) [e] [] pos) (tM1 rSplit to te) := pe_split ho he hs hb hl
theorem qe_join (ho : PE X o to) (he : PE X e te) (hs : starEach [e] X.env = [(false, eval e X.env)] := by rfl) (hb : attributeBase o "join" X.env (eval o X.env) = eval o X.env := by rfl) (hl : (apos.endLine == pos.line) = true := by rfl) :
    PE X (.Call (.Attribute o "join" apos) [e] [] pos) (tM1 (rJoin X.K) to te) := pe_join ho he hs hb hl
end
section
variable {P : List As} {K : PySem.W.Frag} {Q : VK} {p : Addr} {H : Hp} {σ : L2.St}
instance rd_m1 {r : V → List V → Hp → VK → Prop} {to te : TE} : Rd (tM1 r to te σ H Q) (to σ H fun x H1 => (∃ a, x = V.str a) ∧ te σ H1 fun y H2 => r x [y] H2 Q) := ⟨fun k => k⟩
instance rd_isS {b : Str} {X : Prop} : Rd ((∃ a, V.str b = V.str a) ∧ X) X := ⟨fun k => ⟨⟨b, rfl⟩, k⟩⟩
instance rd_iStr {te : TE} {R : It → Hp → Prop} : Rd (iStr te σ H R) (te σ H fun v H1 => ∃ x, v = V.str x ∧ R (Its x) H1) := ⟨fun k => k⟩
instance rd_exS {z : Str} {R : Str → Prop} : Rd (∃ x, V.str z = V.str x ∧ R x) (R z) := ⟨fun k => ⟨z, rfl, k⟩⟩
theorem e_addS {a b : Str} (h : a.length + b.length ≤ sizeLine) (k : Ent P (fun H => Q (.str (a ++ b)) H)) : Ent P (fun H => oAddS (.str a) (.str b) H Q) := fun H s => ⟨a, b, rfl, rfl, h, k H s⟩
theorem e_inS {c : Nat} {z : Str} (k : Ent P (fun H => Q (.bl (decide (c ∈ z.cps.toList))) H)) : Ent P (fun H => rInS (.str ⟨#[c]⟩) (.str z) H Q) := fun H s => ⟨c, z, rfl, rfl, k H s⟩
theorem e_strI {i : Int} (h : i.natAbs.log2 < 1920) (k : Ent P (fun H => Q (.str (toString i)) H)) : Ent P (fun H => cStr [.int i] H Q) := fun H s => .inl ⟨i, rfl, h, k H s⟩
theorem e_strS {a : Str} (k : Ent P (fun H => Q (.str a) H)) : Ent P (fun H => cStr [.str a] H Q) := fun H s => .inr ⟨a, rfl, k H s⟩
theorem e_intS {a : Str} {n : Int} (h : PySem.intText? a = some n) (hl : a.length ≤ 640) (k : Ent P (fun H => Q (.int n) H)) : Ent P (fun H => cIntS [.str a] H Q) := fun H s => ⟨a, n, rfl, h, hl, k H s⟩
theorem e_lenS {a : Str} (h : a.length ≤ sizeLine) (k : Ent P (fun H => Q (.int a.length) H)) : Ent P (fun H => cLenS [.str a] H Q) := fun H s => ⟨a, rfl, h, k H s⟩
theorem e_ixS {z : Str} {i : Int} {c : Nat} (hz : z.length ≤ sizeLine) (e : atI z.cps.toList i = some c) (k : Ent P (fun H => Q (.str ⟨#[c]⟩) H)) : Ent P (fun H => rIxS (.str z) (.int i) H Q) := fun H s => ⟨z, i, c, rfl, rfl, hz, e, k H s⟩
theorem e_split {a b : Str} (hb : (b.length == 0) = false) (h : a.length + 2 ≤ sizeLine) (k : ∀ q, Ent (At (.ref q) (LstX ((Txt.split a b).map V.str)) :: P) (fun H => Q (.ref q) H)) : Ent P (fun H => rSplit (.str a) [.str b] H Q) := fun H s =>
  ⟨a, b, rfl, rfl, hb, h, fun q nq => k q _ (s.new nq ⟨q, rfl, upd_same⟩ fun _ e => by cases e)⟩
theorem e_join {a : Str} {ys : List Str} [s : Sees P p (.lst (ys.map V.str))] (h : (ys.map (·.length)).sum + ys.length * a.length ≤ 16777216) (k : Ent P (fun H => Q (.str (Txt.join a ys)) H)) : Ent P (fun H => rJoin K (.str a) [.ref p] H Q) := fun H z =>
  ⟨a, p, ys, rfl, rfl, .inl (SqL.of (s.sees H z)), h, k H z⟩
theorem e_lcS {g : TG} {tt : TT} {te : TE} {vs : List Nat} {σ0 : L2.St} (z : Str) (hw : wipe σ vs = σ0) (I : Nat → List V → List As → Prop) (h0 : I 0 [] P)
    (hs : ∀ D i c acc P, z.cps[i]? = some c → I i acc P → Ent (At (.ref D) (LstX acc) :: P) (fun H => g (.str ⟨#[c]⟩) σ0 H fun σ2 H2 => wipe σ2 vs = σ0 ∧ tt σ2 H2 fun b H3 => kIf b (te σ2 H3 (puC D (I (i + 1)))) (nxC D (I (i + 1)) H3)))
    (hd : ∀ D acc P, I z.cps.size acc P → Ent (At (.ref D) (LstX acc) :: P) (fun H => Q (.ref D) H)) : Ent P (fun H => kLc (Its z) g tt te vs σ Q H) :=
  e_lc (walk_str (z := z)) hw I h0 (fun _ _ _ _ _ _ _ => trivial) (fun D i acc P hi q x H H2 s y => by obtain ⟨rfl, c, e, rfl⟩ := y; exact hs D i c acc P e q _ s) hd
end
end Qn

/-! PH: the text by places, its facts. -/
namespace Qn
open PySem L2
def top (i : Nat) : Stmt := PySem.Challenge.pw_quantalines_k03_deeds_refused.main.body.getD i (.Pass ⟨0, 0, 0, 0⟩)
abbrev s_is_number : Stmt := top 24
abbrev N_is_number : List Str := ["part", "low", "high"]
theorem sc_is_number : FnScope N_is_number ["part", "low", "high"] (defScope s_is_number) := ⟨rfl, rfl, rfl, by decide +kernel, rfl, by decide +kernel, by decide +kernel⟩
abbrev s_is_line : Stmt := top 25
abbrev N_is_line : List Str := ["line"]
theorem sc_is_line : FnScope N_is_line ["line"] (defScope s_is_line) := ⟨rfl, rfl, rfl, by decide +kernel, rfl, by decide +kernel, by decide +kernel⟩
abbrev s_need_rules : Stmt := top 26
abbrev N_need_rules : List Str := ["rules", "lines", "boost", "charge", "number", "line"]
theorem sc_need_rules : FnScope N_need_rules ["rules"] (defScope s_need_rules) := ⟨rfl, rfl, rfl, by decide +kernel, rfl, by decide +kernel, by decide +kernel⟩
abbrev s_need_task : Stmt := top 27
abbrev N_need_task : List Str := ["task"]
theorem sc_need_task : FnScope N_need_task ["task"] (defScope s_need_task) := ⟨rfl, rfl, rfl, by decide +kernel, rfl, by decide +kernel, by decide +kernel⟩
abbrev s_Card__init : Stmt := inClass (top 29) 0
abbrev N_Card__init : List Str := ["self", "many"]
theorem sc_Card__init : FnScope N_Card__init ["self", "many"] (defScope s_Card__init) := ⟨rfl, rfl, rfl, by decide +kernel, rfl, by decide +kernel, by decide +kernel⟩
abbrev s_Lines__init : Stmt := inClass (top 30) 0
abbrev N_Lines__init : List Str := ["self", "rules", "line"]
theorem sc_Lines__init : FnScope N_Lines__init ["self", "rules"] (defScope s_Lines__init) := ⟨rfl, rfl, rfl, by decide +kernel, rfl, by decide +kernel, by decide +kernel⟩
abbrev s_Lines_need_there : Stmt := inClass (top 30) 1
abbrev N_Lines_need_there : List Str := ["self", "task"]
theorem sc_Lines_need_there : FnScope N_Lines_need_there ["self", "task"] (defScope s_Lines_need_there) := ⟨rfl, rfl, rfl, by decide +kernel, rfl, by decide +kernel, by decide +kernel⟩
abbrev s_Lines_lay : Stmt := inClass (top 30) 2
abbrev N_Lines_lay : List Str := ["self", "task", "line", "card"]
theorem sc_Lines_lay : FnScope N_Lines_lay ["self", "task", "line"] (defScope s_Lines_lay) := ⟨rfl, rfl, rfl, by decide +kernel, rfl, by decide +kernel, by decide +kernel⟩
abbrev s_Lines_come : Stmt := inClass (top 30) 3
abbrev N_Lines_come : List Str := ["self", "task"]
theorem sc_Lines_come : FnScope N_Lines_come ["self", "task"] (defScope s_Lines_come) := ⟨rfl, rfl, rfl, by decide +kernel, rfl, by decide +kernel, by decide +kernel⟩
abbrev s_Lines_go : Stmt := inClass (top 30) 4
abbrev N_Lines_go : List Str := ["self", "task", "card"]
theorem sc_Lines_go : FnScope N_Lines_go ["self", "task"] (defScope s_Lines_go) := ⟨rfl, rfl, rfl, by decide +kernel, rfl, by decide +kernel, by decide +kernel⟩
abbrev s_Lines_wait : Stmt := inClass (top 30) 5
abbrev N_Lines_wait : List Str := ["self", "task", "card"]
theorem sc_Lines_wait : FnScope N_Lines_wait ["self", "task"] (defScope s_Lines_wait) := ⟨rfl, rfl, rfl, by decide +kernel, rfl, by decide +kernel, by decide +kernel⟩
abbrev s_Lines_wake : Stmt := inClass (top 30) 6
abbrev N_Lines_wake : List Str := ["self", "task", "card"]
theorem sc_Lines_wake : FnScope N_Lines_wake ["self", "task"] (defScope s_Lines_wake) := ⟨rfl, rfl, rfl, by decide +kernel, rfl, by decide +kernel, by decide +kernel⟩
abbrev s_Lines_boosted : Stmt := inClass (top 30) 7
abbrev N_Lines_boosted : List Str := ["self", "task", "every", "card", "row", "line"]
theorem sc_Lines_boosted : FnScope N_Lines_boosted ["self"] (defScope s_Lines_boosted) := ⟨rfl, rfl, rfl, by decide +kernel, rfl, by decide +kernel, by decide +kernel⟩
abbrev s_Lines_first : Stmt := inClass (top 30) 8
abbrev N_Lines_first : List Str := ["self", "ready", "row"]
theorem sc_Lines_first : FnScope N_Lines_first ["self"] (defScope s_Lines_first) := ⟨rfl, rfl, rfl, by decide +kernel, rfl, by decide +kernel, by decide +kernel⟩
abbrev s_Lines_boost_now : Stmt := inClass (top 30) 9
abbrev N_Lines_boost_now : List Str := ["self", "boost"]
theorem sc_Lines_boost_now : FnScope N_Lines_boost_now ["self"] (defScope s_Lines_boost_now) := ⟨rfl, rfl, rfl, by decide +kernel, rfl, by decide +kernel, by decide +kernel⟩
abbrev s_Lines_run : Stmt := inClass (top 30) 10
abbrev N_Lines_run : List Str := ["self", "many", "task", "line"]
theorem sc_Lines_run : FnScope N_Lines_run ["self", "many"] (defScope s_Lines_run) := ⟨rfl, rfl, rfl, by decide +kernel, rfl, by decide +kernel, by decide +kernel⟩
abbrev s_Lines_tick : Stmt := inClass (top 30) 11
abbrev N_Lines_tick : List Str := ["self", "ran"]
theorem sc_Lines_tick : FnScope N_Lines_tick ["self"] (defScope s_Lines_tick) := ⟨rfl, rfl, rfl, by decide +kernel, rfl, by decide +kernel, by decide +kernel⟩
abbrev s_Lines_charge : Stmt := inClass (top 30) 12
abbrev N_Lines_charge : List Str := ["self", "task", "many", "card", "last", "line"]
theorem sc_Lines_charge : FnScope N_Lines_charge ["self", "task", "many"] (defScope s_Lines_charge) := ⟨rfl, rfl, rfl, by decide +kernel, rfl, by decide +kernel, by decide +kernel⟩
abbrev s_Lines_lines : Stmt := inClass (top 30) 13
abbrev N_Lines_lines : List Str := ["self", "row"]
theorem sc_Lines_lines : FnScope N_Lines_lines ["self"] (defScope s_Lines_lines) := ⟨rfl, rfl, rfl, by decide +kernel, rfl, by decide +kernel, by decide +kernel⟩
abbrev s_Lines_now : Stmt := inClass (top 30) 14
abbrev N_Lines_now : List Str := ["self"]
theorem sc_Lines_now : FnScope N_Lines_now ["self"] (defScope s_Lines_now) := ⟨rfl, rfl, rfl, by decide +kernel, rfl, by decide +kernel, by decide +kernel⟩
abbrev s_Lines_card : Stmt := inClass (top 30) 15
abbrev N_Lines_card : List Str := ["self", "task", "card"]
theorem sc_Lines_card : FnScope N_Lines_card ["self", "task"] (defScope s_Lines_card) := ⟨rfl, rfl, rfl, by decide +kernel, rfl, by decide +kernel, by decide +kernel⟩
abbrev s_Lines_used : Stmt := inClass (top 30) 16
abbrev N_Lines_used : List Str := ["self", "task"]
theorem sc_Lines_used : FnScope N_Lines_used ["self", "task"] (defScope s_Lines_used) := ⟨rfl, rfl, rfl, by decide +kernel, rfl, by decide +kernel, by decide +kernel⟩
abbrev s_Lines_tasks : Stmt := inClass (top 30) 17
abbrev N_Lines_tasks : List Str := ["self", "task"]
theorem sc_Lines_tasks : FnScope N_Lines_tasks ["self"] (defScope s_Lines_tasks) := ⟨rfl, rfl, rfl, by decide +kernel, rfl, by decide +kernel, by decide +kernel⟩
abbrev s_law_begun : Stmt := top 32
abbrev N_law_begun : List Str := ["_law_script", "_law_stirred", "_law_cell"]
theorem sc_law_begun : FnScope N_law_begun ["_law_script"] (defScope s_law_begun) := ⟨rfl, rfl, rfl, by decide +kernel, rfl, by decide +kernel, by decide +kernel⟩
abbrev s_law_take : Stmt := top 33
abbrev N_law_take : List Str := ["_law_box", "_law_many", "_law_number"]
theorem sc_law_take : FnScope N_law_take ["_law_box", "_law_many"] (defScope s_law_take) := ⟨rfl, rfl, rfl, by decide +kernel, rfl, by decide +kernel, by decide +kernel⟩
abbrev s_law_alike : Stmt := top 34
abbrev N_law_alike : List Str := ["_law_found", "_law_due", "_law_k"]
theorem sc_law_alike : FnScope N_law_alike ["_law_found", "_law_due"] (defScope s_law_alike) := ⟨rfl, rfl, rfl, by decide +kernel, rfl, by decide +kernel, by decide +kernel⟩
abbrev s_law_told : Stmt := top 35
abbrev N_law_told : List Str := ["_law_work", "e", "_law_kinds", "_law_words", "_law_word"]
theorem sc_law_told : FnScope N_law_told ["_law_work"] (defScope s_law_told) := ⟨rfl, rfl, rfl, by decide +kernel, rfl, by decide +kernel, by decide +kernel⟩
abbrev s_law_all : Stmt := top 36
abbrev N_law_all : List Str := ["_law_works", "_law_due", "_law_work"]
theorem sc_law_all : FnScope N_law_all ["_law_works", "_law_due"] (defScope s_law_all) := ⟨rfl, rfl, rfl, by decide +kernel, rfl, by decide +kernel, by decide +kernel⟩
abbrev s_law_rules : Stmt := top 37
abbrev N_law_rules : List Str := ["_law_box", "_law_lines", "_law_line", "_law_quantum", "_law_boost"]
theorem sc_law_rules : FnScope N_law_rules ["_law_box"] (defScope s_law_rules) := ⟨rfl, rfl, rfl, by decide +kernel, rfl, by decide +kernel, by decide +kernel⟩
abbrev s_law_deed : Stmt := top 38
abbrev N_law_deed : List Str := ["_law_box", "_law_lines", "_law_there", "_law_task", "_law_way"]
theorem sc_law_deed : FnScope N_law_deed ["_law_box", "_law_lines"] (defScope s_law_deed) := ⟨rfl, rfl, rfl, by decide +kernel, rfl, by decide +kernel, by decide +kernel⟩
abbrev s_law_done : Stmt := top 39
abbrev N_law_done : List Str := ["_law_lines", "_law_deed_here", "_law_task"]
theorem sc_law_done : FnScope N_law_done ["_law_lines", "_law_deed_here", "_law_task"] (defScope s_law_done) := ⟨rfl, rfl, rfl, by decide +kernel, rfl, by decide +kernel, by decide +kernel⟩
abbrev s_law_shown : Stmt := top 40
abbrev N_law_shown : List Str := ["_law_lines", "_law_cards", "_law_task"]
theorem sc_law_shown : FnScope N_law_shown ["_law_lines"] (defScope s_law_shown) := ⟨rfl, rfl, rfl, by decide +kernel, rfl, by decide +kernel, by decide +kernel⟩
abbrev s_law_is_refused : Stmt := top 41
abbrev N_law_is_refused : List Str := ["_law_box", "_law_lines", "_law_far", "_law_works", "_law_none", "_law_task"]
theorem sc_law_is_refused : FnScope N_law_is_refused ["_law_box", "_law_lines"] (defScope s_law_is_refused) := ⟨rfl, rfl, rfl, by decide +kernel, rfl, by decide +kernel, by decide +kernel⟩
abbrev s_law : Stmt := top 42
abbrev N_law : List Str := ["_law_script", "_law_box", "_law_rules_here", "_law_one", "_law_other", "_law_turn", "_law_deed_here", "_law_task"]
theorem sc_law : FnScope N_law ["_law_script"] (defScope s_law) := ⟨rfl, rfl, rfl, by decide +kernel, rfl, by decide +kernel, by decide +kernel⟩
structure Adr where
  (is_number is_line need_rules need_task Card__init Lines__init Lines_need_there Lines_lay Lines_come Lines_go Lines_wait Lines_wake Lines_boosted Lines_first Lines_boost_now Lines_run Lines_tick Lines_charge Lines_lines Lines_now Lines_card Lines_used Lines_tasks law_begun law_take law_alike law_told law_all law_rules law_deed law_done law_shown law_is_refused law Card Lines LineError BadRules BadRuns BadTask BadTasks BadText BadUntil NotThere Ready There Waits cd_law_is_refused : Addr)
structure Txt (K : PySem.W.Frag) (mg : Str → Option Value) (a : Adr) : Prop where
  f_is_number : ∃ fd, Fun K "is_number" "is_number" s_is_number a.is_number fd ∧ Binds K fd ["part", "low", "high"] []
  g_is_number : mg "is_number" = some (.ref a.is_number)
  f_is_line : ∃ fd, Fun K "is_line" "is_line" s_is_line a.is_line fd ∧ Binds K fd ["line"] []
  g_is_line : mg "is_line" = some (.ref a.is_line)
  f_need_rules : ∃ fd, Fun K "need_rules" "need_rules" s_need_rules a.need_rules fd ∧ Binds K fd ["rules"] []
  g_need_rules : mg "need_rules" = some (.ref a.need_rules)
  f_need_task : ∃ fd, Fun K "need_task" "need_task" s_need_task a.need_task fd ∧ Binds K fd ["task"] []
  g_need_task : mg "need_task" = some (.ref a.need_task)
  f_Card__init : ∃ fd, Fun K "__init__" "Card.__init__" s_Card__init a.Card__init fd ∧ Binds K fd ["self", "many"] []
  f_Lines__init : ∃ fd, Fun K "__init__" "Lines.__init__" s_Lines__init a.Lines__init fd ∧ Binds K fd ["self", "rules"] []
  f_Lines_need_there : ∃ fd, Fun K "need_there" "Lines.need_there" s_Lines_need_there a.Lines_need_there fd ∧ Binds K fd ["self", "task"] []
  m_Lines_need_there : Meth K a.Lines "need_there" a.Lines_need_there
  f_Lines_lay : ∃ fd, Fun K "lay" "Lines.lay" s_Lines_lay a.Lines_lay fd ∧ Binds K fd ["self", "task", "line"] []
  m_Lines_lay : Meth K a.Lines "lay" a.Lines_lay
  f_Lines_come : ∃ fd, Fun K "come" "Lines.come" s_Lines_come a.Lines_come fd ∧ Binds K fd ["self", "task"] []
  m_Lines_come : Meth K a.Lines "come" a.Lines_come
  f_Lines_go : ∃ fd, Fun K "go" "Lines.go" s_Lines_go a.Lines_go fd ∧ Binds K fd ["self", "task"] []
  m_Lines_go : Meth K a.Lines "go" a.Lines_go
  f_Lines_wait : ∃ fd, Fun K "wait" "Lines.wait" s_Lines_wait a.Lines_wait fd ∧ Binds K fd ["self", "task"] []
  m_Lines_wait : Meth K a.Lines "wait" a.Lines_wait
  f_Lines_wake : ∃ fd, Fun K "wake" "Lines.wake" s_Lines_wake a.Lines_wake fd ∧ Binds K fd ["self", "task"] []
  m_Lines_wake : Meth K a.Lines "wake" a.Lines_wake
  f_Lines_boosted : ∃ fd, Fun K "boosted" "Lines.boosted" s_Lines_boosted a.Lines_boosted fd ∧ Binds K fd ["self"] []
  m_Lines_boosted : Meth K a.Lines "boosted" a.Lines_boosted
  f_Lines_first : ∃ fd, Fun K "first" "Lines.first" s_Lines_first a.Lines_first fd ∧ Binds K fd ["self"] []
  m_Lines_first : Meth K a.Lines "first" a.Lines_first
  f_Lines_boost_now : ∃ fd, Fun K "boost_now" "Lines.boost_now" s_Lines_boost_now a.Lines_boost_now fd ∧ Binds K fd ["self"] []
  m_Lines_boost_now : Meth K a.Lines "boost_now" a.Lines_boost_now
  f_Lines_run : ∃ fd, Fun K "run" "Lines.run" s_Lines_run a.Lines_run fd ∧ Binds K fd ["self", "many"] []
  m_Lines_run : Meth K a.Lines "run" a.Lines_run
  f_Lines_tick : ∃ fd, Fun K "tick" "Lines.tick" s_Lines_tick a.Lines_tick fd ∧ Binds K fd ["self"] []
  m_Lines_tick : Meth K a.Lines "tick" a.Lines_tick
  f_Lines_charge : ∃ fd, Fun K "charge" "Lines.charge" s_Lines_charge a.Lines_charge fd ∧ Binds K fd ["self", "task", "many"] []
  m_Lines_charge : Meth K a.Lines "charge" a.Lines_charge
  f_Lines_lines : ∃ fd, Fun K "lines" "Lines.lines" s_Lines_lines a.Lines_lines fd ∧ Binds K fd ["self"] []
  m_Lines_lines : Meth K a.Lines "lines" a.Lines_lines
  f_Lines_now : ∃ fd, Fun K "now" "Lines.now" s_Lines_now a.Lines_now fd ∧ Binds K fd ["self"] []
  m_Lines_now : Meth K a.Lines "now" a.Lines_now
  f_Lines_card : ∃ fd, Fun K "card" "Lines.card" s_Lines_card a.Lines_card fd ∧ Binds K fd ["self", "task"] []
  m_Lines_card : Meth K a.Lines "card" a.Lines_card
  f_Lines_used : ∃ fd, Fun K "used" "Lines.used" s_Lines_used a.Lines_used fd ∧ Binds K fd ["self", "task"] []
  m_Lines_used : Meth K a.Lines "used" a.Lines_used
  f_Lines_tasks : ∃ fd, Fun K "tasks" "Lines.tasks" s_Lines_tasks a.Lines_tasks fd ∧ Binds K fd ["self"] []
  m_Lines_tasks : Meth K a.Lines "tasks" a.Lines_tasks
  f_law_begun : ∃ fd, Fun K "_law_begun" "_law_begun" s_law_begun a.law_begun fd ∧ Binds K fd ["_law_script"] []
  g_law_begun : mg "_law_begun" = some (.ref a.law_begun)
  f_law_take : ∃ fd, Fun K "_law_take" "_law_take" s_law_take a.law_take fd ∧ Binds K fd ["_law_box", "_law_many"] []
  g_law_take : mg "_law_take" = some (.ref a.law_take)
  f_law_alike : ∃ fd, Fun K "_law_alike" "_law_alike" s_law_alike a.law_alike fd ∧ Binds K fd ["_law_found", "_law_due"] []
  g_law_alike : mg "_law_alike" = some (.ref a.law_alike)
  f_law_told : ∃ fd, Fun K "_law_told" "_law_told" s_law_told a.law_told fd ∧ Binds K fd ["_law_work"] []
  g_law_told : mg "_law_told" = some (.ref a.law_told)
  f_law_all : ∃ fd, Fun K "_law_all" "_law_all" s_law_all a.law_all fd ∧ Binds K fd ["_law_works", "_law_due"] []
  g_law_all : mg "_law_all" = some (.ref a.law_all)
  f_law_rules : ∃ fd, Fun K "_law_rules" "_law_rules" s_law_rules a.law_rules fd ∧ Binds K fd ["_law_box"] []
  g_law_rules : mg "_law_rules" = some (.ref a.law_rules)
  f_law_deed : ∃ fd, Fun K "_law_deed" "_law_deed" s_law_deed a.law_deed fd ∧ Binds K fd ["_law_box", "_law_lines"] []
  g_law_deed : mg "_law_deed" = some (.ref a.law_deed)
  f_law_done : ∃ fd, Fun K "_law_done" "_law_done" s_law_done a.law_done fd ∧ Binds K fd ["_law_lines", "_law_deed_here", "_law_task"] []
  g_law_done : mg "_law_done" = some (.ref a.law_done)
  f_law_shown : ∃ fd, Fun K "_law_shown" "_law_shown" s_law_shown a.law_shown fd ∧ Binds K fd ["_law_lines"] []
  g_law_shown : mg "_law_shown" = some (.ref a.law_shown)
  f_law_is_refused : ∃ fd, FunC K "_law_is_refused" "_law_is_refused" s_law_is_refused a.law_is_refused fd a.cd_law_is_refused ∧ Binds K fd ["_law_box", "_law_lines"] []
  g_law_is_refused : mg "_law_is_refused" = some (.ref a.law_is_refused)
  f_law : ∃ fd, Fun K "law" "law" s_law a.law fd ∧ Binds K fd ["_law_script"] []
  g_law : mg "law" = some (.ref a.law)
  c_Card : Cls K a.Card
  g_Card : mg "Card" = some (.ref a.Card)
  n_Card_line : NoAttr K a.Card "line"
  n_Card_quantum : NoAttr K a.Card "quantum"
  n_Card_share : NoAttr K a.Card "share"
  n_Card_is_ready : NoAttr K a.Card "is_ready"
  n_Card_spent : NoAttr K a.Card "spent"
  k_Card : Mk K a.Card a.Card__init
  c_Lines : Cls K a.Lines
  g_Lines : mg "Lines" = some (.ref a.Lines)
  n_Lines_rules : NoAttr K a.Lines "rules"
  n_Lines_cards : NoAttr K a.Lines "cards"
  n_Lines_rows : NoAttr K a.Lines "rows"
  n_Lines_time : NoAttr K a.Lines "time"
  k_Lines : Mk K a.Lines a.Lines__init
  le : LeC K mg "LineError" a.LineError
  g_LineError : mg "LineError" = some (.ref a.LineError)
  g_BadRules : mg "BadRules" = some (.ref a.BadRules)
  g_BadRuns : mg "BadRuns" = some (.ref a.BadRuns)
  g_BadTask : mg "BadTask" = some (.ref a.BadTask)
  g_BadTasks : mg "BadTasks" = some (.ref a.BadTasks)
  g_BadText : mg "BadText" = some (.ref a.BadText)
  g_BadUntil : mg "BadUntil" = some (.ref a.BadUntil)
  g_NotThere : mg "NotThere" = some (.ref a.NotThere)
  g_Ready : mg "Ready" = some (.ref a.Ready)
  g_There : mg "There" = some (.ref a.There)
  g_Waits : mg "Waits" = some (.ref a.Waits)
  r_BadTask : RfC K a.LineError [a.BadRules, a.BadRuns, a.BadTask, a.BadTasks, a.BadText, a.BadUntil, a.NotThere, a.Ready, a.There, a.Waits] a.BadTask 2
  p_BadTask : RzP K a.BadTask
  r_NotThere : RfC K a.LineError [a.BadRules, a.BadRuns, a.BadTask, a.BadTasks, a.BadText, a.BadUntil, a.NotThere, a.Ready, a.There, a.Waits] a.NotThere 6
  p_NotThere : RzP K a.NotThere
  r_Ready : RfC K a.LineError [a.BadRules, a.BadRuns, a.BadTask, a.BadTasks, a.BadText, a.BadUntil, a.NotThere, a.Ready, a.There, a.Waits] a.Ready 7
  p_Ready : RzP K a.Ready
  r_There : RfC K a.LineError [a.BadRules, a.BadRuns, a.BadTask, a.BadTasks, a.BadText, a.BadUntil, a.NotThere, a.Ready, a.There, a.Waits] a.There 8
  p_There : RzP K a.There
  r_Waits : RfC K a.LineError [a.BadRules, a.BadRuns, a.BadTask, a.BadTasks, a.BadText, a.BadUntil, a.NotThere, a.Ready, a.There, a.Waits] a.Waits 9
  p_Waits : RzP K a.Waits
  z_len : mg "len" = none
  z_isinstance : mg "isinstance" = none
  z_min : mg "min" = none
  z_range : mg "range" = none
  z_enumerate : mg "enumerate" = none
  z_int : mg "int" = none
  z_bool : mg "bool" = none
  z_str : mg "str" = none
  z_tuple : mg "tuple" = none
  z_list : mg "list" = none
  z_ValueError : mg "ValueError" = none
  g_MOST_LINES : ∃ t, mg "MOST_LINES" = some (.int 4 t)
  g_MOST_QUANTUM : ∃ t, mg "MOST_QUANTUM" = some (.int 8 t)
  g_MOST_SHARE : ∃ t, mg "MOST_SHARE" = some (.int 40 t)
  g_LEAST_BOOST : ∃ t, mg "LEAST_BOOST" = some (.int 5 t)
  g_MOST_BOOST : ∃ t, mg "MOST_BOOST" = some (.int 100 t)
  g_KEPT : ∃ t, mg "KEPT" = some (.str "kept" t)
  g_ANEW : ∃ t, mg "ANEW" = some (.str "anew" t)
  g_LINES : ∃ t, mg "LINES" = some (.int 0 t)
  g_BOOST : ∃ t, mg "BOOST" = some (.int 1 t)
  g_CHARGE : ∃ t, mg "CHARGE" = some (.int 2 t)
  g_MOST_TASK : ∃ t, mg "MOST_TASK" = some (.int 19 t)
abbrev csE (a : Adr) : List Addr := [a.BadRules, a.BadRuns, a.BadTask, a.BadTasks, a.BadText, a.BadUntil, a.NotThere, a.Ready, a.There, a.Waits]
end Qn

namespace Qn
open PySem L2
local macro_rules | `(tactic| fail "ne") => `(tactic| first | assumption | (apply Ne.symm; assumption) | (apply ne_of_none; assumption; assumption) | (apply Ne.symm; apply ne_of_none; assumption; assumption) | (apply ne_of; assumption; assumption; (intro z; cases z)))
local macro_rules | `(tactic| fail "hp") => `(tactic| with_reducible first | assumption | apply upd_same | (apply upd_old; rotate_left; assumption; fail "hp") | (apply upd_oth; rotate_left; fail "ne"; fail "hp"))
local macro_rules | `(tactic| fail "sl") => `(tactic| with_reducible first | assumption | (apply SqL.of; fail "hp"))
local macro_rules | `(tactic| fail "st") => `(tactic| with_reducible first | assumption | (apply SqT.of; fail "hp"))
local macro_rules | `(tactic| fail "tx") => `(tactic| with_reducible first | assumption | (apply Txt.c_Card; assumption) | (apply Txt.n_Card_line; assumption) | (apply Txt.n_Card_quantum; assumption) | (apply Txt.n_Card_share; assumption) | (apply Txt.n_Card_is_ready; assumption) | (apply Txt.n_Card_spent; assumption) | (apply Txt.c_Lines; assumption) | (apply Txt.n_Lines_rules; assumption) | (apply Txt.n_Lines_cards; assumption) | (apply Txt.n_Lines_rows; assumption) | (apply Txt.n_Lines_time; assumption))
local macro_rules | `(tactic| fail "lk") => `(tactic| with_reducible first | assumption | apply lk_LF_rules | apply lk_LF_cards | apply lk_LF_rows | apply lk_LF_time | apply lk_CF_line | apply lk_CF_quantum | apply lk_CF_share | apply lk_CF_is_ready | apply lk_CF_spent | (apply lk_LF_no; decide +kernel; decide +kernel; decide +kernel; decide +kernel))
local macro_rules | `(tactic| fail "at") => `(tactic| with_reducible first | assumption | apply mc_0 | apply mc_1 | apply mc_2 | apply mc_3 | apply mc_4 | apply at_0 | apply at_1 | apply at_2 | apply at_3 | apply at_4 | (apply atI_nat; assumption) | (apply at_z; assumption))
local macro_rules | `(tactic| fail "go") => `(tactic| repeat (first
  | apply rd_step
  | with_reducible (first
    | (apply r_kFld; fail "hp"; fail "tx"; fail "tx"; fail "lk")
    | (apply r_ixL; fail "sl"; fail "at") | (apply r_ixT; fail "st"; fail "at")
    | (apply r_kMeth; fail "hp"; fail "lk") | (apply r_kBML; fail "sl")
    | (apply r_lenL; fail "sl") | (apply r_lenT; fail "st") | (apply r_lenD; fail "hp")
    | (apply r_kDGetI; fail "hp"; (first | assumption | rfl)) | (apply r_kDGetS; fail "hp"; (first | assumption | apply mv_rules | apply mv_rows | apply mv_cards | apply mv_now)) | (apply r_kDInI; fail "hp") | (apply r_kDNotInI; fail "hp")
    | (apply r_kAugF; fail "hp"; fail "tx"; fail "tx"; fail "lk")
    | (apply r_isi_tuple_tuple; fail "st") | (apply r_isi_list_tuple; fail "sl") | (apply r_isi_list_list; fail "sl") | (apply r_isi_tuple_list; fail "st")
    | (apply r_kUnT; fail "st"; with_unfolding_all rfl) | (apply r_kIL; fail "sl") | (apply r_kIT; fail "st") | (apply r_kIE; fail "st") )))
local macro_rules | `(tactic| fail "eg") => `(tactic| repeat (first
  | apply stp
  | (refine e_rul0 (fun _ => ?_))

  | (refine e_tup0 (fun _ => ?_)) ))
local macro_rules | `(tactic| fail "egs") => `(tactic| (try (with_reducible refine e_seq ?_)) <;> repeat (first
  | apply stp
  | (with_reducible refine e_seq ?_)
  | (refine e_rul0 (fun _ => ?_))

  | (refine e_tup0 (fun _ => ?_)) ))
/-- a number within bounds -/
def numB (x : V) (lo hi : Int) : Bool := match x with
  | .int i => decide (lo ≤ i) && decide (i ≤ hi)
  | _ => false
def sp_is_number (K : PySem.W.Frag) (a : Adr) : Sp := sp3 fun x y z H Q _ => ∃ lo hi, plainV x = true ∧ y = .int lo ∧ z = .int hi ∧ Q (.bl (numB x lo hi)) H
section
variable {P : Program} {w : World} {K : PySem.W.Frag} {mg : Str → Option Value} {base : Heap} {a : Adr}
theorem ok_is_number (T : Txt K mg a) : Cal P w K mg base CX0 1 "is_number" ["part", "low", "high"] (sp_is_number K a) := by
  obtain ⟨fd, F, b⟩ := T.f_is_number
  refine ⟨a.is_number, fd, F.ok sc_is_number (fun vs H Q E h => sp3_len h) (fun cdv A outer s H vs Q E hr h => ?_), T.g_is_number, F.kp, b⟩
  refine ⟨_, (pss_one (ps_ret (pe_and (pe_callB call_isi (by rfl) T.z_isinstance (by decide +kernel) (pa_cons (pv 0) (pa_cons (q_bty (T := "int") (by rfl) T.z_int (by decide +kernel)) pa_nil))) (pe_and (pe_not (pe_callB call_isi (by rfl) T.z_isinstance (by decide +kernel) (pa_cons (pv 0) (pa_cons (q_bty (T := "bool") (by rfl) T.z_bool (by decide +kernel)) pa_nil)))) (pe_one (pe_chain qo_le qo_le (pv 1) (pv 0) (pv 2))))))), ?_⟩
  try dsimp only [cxOf, Cx.nox, Cx.wish, List.map_cons, List.map_nil]
  obtain ⟨x, y, z, rfl, h⟩ := h
  rw [show L2.start N_is_number [x, y, z] = [some x, some y, some z] from rfl]
  obtain ⟨lo, hi, px, rfl, rfl, k⟩ := h
  cases x with
  | int i =>
    fail "go"
    refine r_kIf (fun h1 => ?_) (fun h1 => ?_)
    · fail "go"
      have e : numB (.int i) lo hi = decide (i ≤ hi) := by show (decide (lo ≤ i) && decide (i ≤ hi)) = _; rw [h1]; rfl
      rw [← e]; exact k
    · have e : numB (.int i) lo hi = false := by show (decide (lo ≤ i) && decide (i ≤ hi)) = _; rw [h1]; rfl
      rw [← e]; exact k
  | bl i => fail "go"; exact k
  | non => fail "go"; exact k
  | str i => fail "go"; exact k
  | _ => cases px
/-- a pair (quantum, allotment) as it is to be -/
def sp_is_line (K : PySem.W.Frag) (a : Adr) : Sp := sp1 fun x H Q _ => ∃ p q s, x = .ref p ∧ H p = some (.tup [.int q, .int s]) ∧ 1 ≤ q ∧ q ≤ 8 ∧ q ≤ s ∧ s ≤ 40 ∧ Q (.bl true) H
theorem ok_is_line (T : Txt K mg a) : Cal P w K mg base CX0 2 "is_line" ["line"] (sp_is_line K a) := by
  obtain ⟨fd, F, b⟩ := T.f_is_line
  refine ⟨a.is_line, fd, F.ok sc_is_line (fun vs H Q E h => sp1_len h) (fun cdv A outer s H vs Q E hr h => ?_), T.g_is_line, F.kp, b⟩
  refine ⟨_, (pss_cons (ps_if (PW.pt (pw_or (pt_not (pt_val (pe_callB call_isi (by rfl) T.z_isinstance (by decide +kernel) (pa_cons (pv 0) (pa_cons (q_bty (T := "tuple") (by rfl) T.z_tuple (by decide +kernel)) pa_nil))))) (pw_or (pt_cmpR op_ne (pe_callB qr_len (by rfl) T.z_len (by decide +kernel) (pa_cons (pv 0) pa_nil)) pe_int (nomark _)) (pw_or1 (pt_not (pt_val (q_call (ok_is_number T) (hr.mono (by decide)) pass0 (pa_cons (pe_ix ix_tup (pv 0) pe_int (fun _ _ => rfl)) (pa_cons pe_int (pa_cons (q_cI T.g_MOST_QUANTUM) pa_nil))))))))))
 (pss_one (ps_ret pe_bl))
 pss_nil)
 (pss_one (ps_ret (q_call (ok_is_number T) (hr.mono (by decide)) pass0 (pa_cons (pe_ix ix_tup (pv 0) pe_int (fun _ _ => rfl)) (pa_cons (pe_ix ix_tup (pv 0) pe_int (fun _ _ => rfl)) (pa_cons (q_cI T.g_MOST_SHARE) pa_nil))))))), ?_⟩
  try dsimp only [cxOf, Cx.nox, Cx.wish, List.map_cons, List.map_nil]
  obtain ⟨x, rfl, h⟩ := h
  rw [show L2.start N_is_line [x] = [some x] from rfl]
  obtain ⟨p, q, s, rfl, hp, h1, h2, h3, h4, k⟩ := h
  fail "go"
  refine r_kF rfl ?_
  fail "go"
  refine sp3_mk ?_
  refine ⟨1, 8, rfl, rfl, rfl, ?_⟩
  have e1 : numB (.int q) 1 8 = true := by show (decide (1 ≤ q) && decide (q ≤ 8)) = _; simp; omega
  rw [e1]
  fail "go"
  refine sp3_mk ?_
  refine ⟨q, 40, rfl, rfl, rfl, ?_⟩
  have e2 : numB (.int s) q 40 = true := by show (decide (q ≤ s) && decide (s ≤ 40)) = _; simp; omega
  rw [e2]
  exact k
/-- rules as they are to be: let by -/
def sp_need_rules (K : PySem.W.Frag) (a : Adr) : Sp := sp1 fun x H Q _ => ∃ ra R la ps, x = .ref ra ∧ RulAt H ra R la ps ∧ R.Ok ∧ ∀ H', Same H H' → Q .non H'
theorem ok_need_rules (T : Txt K mg a) : Cal P w K mg base CX0 3 "need_rules" ["rules"] (sp_need_rules K a) := by
  obtain ⟨fd, F, b⟩ := T.f_need_rules
  refine ⟨a.need_rules, fd, F.ok sc_need_rules (fun vs H Q E h => sp1_len h) (fun cdv A outer s H vs Q E hr h => ?_), T.g_need_rules, F.kp, b⟩
  refine ⟨_, (pss_cons (ps_if (PW.pt (pw_or (pt_not (pt_val (pe_callB call_isi (by rfl) T.z_isinstance (by decide +kernel) (pa_cons (pv 0) (pa_cons (q_bty (T := "tuple") (by rfl) T.z_tuple (by decide +kernel)) pa_nil))))) (pw_or1 (pt_cmpR op_ne (pe_callB qr_len (by rfl) T.z_len (by decide +kernel) (pa_cons (pv 0) pa_nil)) pe_int (nomark _)))))
 pss_never
 pss_nil)
 (pss_cons (ps_asg (pv 0) (pg_tup (n := 3) rfl (pgs_cons (pg_name (i := 1) sc_need_rules.nd rfl (Or.inl rfl)) (pgs_cons (pg_name (i := 2) sc_need_rules.nd rfl (Or.inl rfl)) (pgs_cons (pg_name (i := 3) sc_need_rules.nd rfl (Or.inl rfl)) pgs_nil)))))
 (pss_cons (ps_if (PW.pt (pw_or (pt_not (pt_val (pe_callB call_isi (by rfl) T.z_isinstance (by decide +kernel) (pa_cons (pv 1) (pa_cons (q_bty (T := "tuple") (by rfl) T.z_tuple (by decide +kernel)) pa_nil))))) (pw_or1 (pt_cmpR (op_eqD (by exact hr.units)) (pv 1) qe_tup0 (nomark _)))))
 pss_never
 pss_nil)
 (pss_cons (ps_for PassesOwn.never rfl (qi_enumT (by rfl) T.z_enumerate (pa_cons (pv 1) pa_nil)) (pg_tup (n := 2) rfl (pgs_cons (pg_name (i := 4) sc_need_rules.nd rfl (Or.inl rfl)) (pgs_cons (pg_name (i := 5) sc_need_rules.nd rfl (Or.inl rfl)) pgs_nil)))
 (pss_one (ps_if (PW.pt (pw_or (pt_cmpR qo_ge (pv 4) (q_cI T.g_MOST_LINES) (nomark _)) (pw_or1 (pt_not (pt_val (q_call (ok_is_line T) (hr.mono (by decide)) pass0 (pa_cons (pv 5) pa_nil)))))))
 pss_never
 pss_nil)))
 (pss_cons (ps_if (PW.pt (pw_and (pt_cmpR op_notN1 (pv 2) pe_non (nomark _)) (pw_and1 (pt_not (pt_val (q_call (ok_is_number T) (hr.mono (by decide)) pass0 (pa_cons (pv 2) (pa_cons (q_cI T.g_LEAST_BOOST) (pa_cons (q_cI T.g_MOST_BOOST) pa_nil)))))))))
 pss_never
 pss_nil)
 (pss_one (ps_if (PW.pt (pw_or (pt_not (pt_val (pe_callB call_isi (by rfl) T.z_isinstance (by decide +kernel) (pa_cons (pv 3) (pa_cons (q_bty (T := "str") (by rfl) T.z_str (by decide +kernel)) pa_nil))))) (pw_or1 (pt_cmpR op_notIn_seq (pv 3) (pe_tup (pa_cons (q_cS T.g_KEPT) (pa_cons (q_cS T.g_ANEW) pa_nil))) (by rfl)))))
 pss_never
 pss_nil))))))), ?_⟩
  try dsimp only [cxOf, Cx.nox, Cx.wish, List.map_cons, List.map_nil]
  obtain ⟨x, rfl, h⟩ := h
  rw [show L2.start N_need_rules [x] = [some x, none, none, none, none, none] from rfl]
  obtain ⟨ra, R, la, ps, rfl, hR, ok, k⟩ := h
  have h1 := hR.rules
  have h2 := hR.lines
  fail "go"
  refine r_kF rfl ?_
  fail "go"
  intro p np
  have s1 : Same H (upd H p (.tup [])) := Same.upd np
  obtain ⟨ds, hd, sd, ld⟩ := (hR.same s1).dp (K := K)
  refine r_eqE_tup hd sd (SqT.of upd_same) ?_
  fail "go"
  have hne : ds.isEmpty = false := by
    cases ds with
    | nil => have := ok.one; simp at ld; omega
    | cons d r => rfl
  refine r_kF hne ?_
  generalize hH1 : upd H p (.tup []) = H1 at *
  have h2' := s1 _ _ h2
  fail "go"
  refine w_for walk_enumT (fun i σ H' => Same H1 H' ∧ ∃ n l, σ = [some (.ref ra), some (.ref la), some (bV R.boost), some (.str (chS R.kept)), n, l]) ⟨fun _ _ e => e, none, none, rfl⟩ (fun i σ H' _ q => SqT.of (q.1 _ _ h2')) ?_ ?_
  · rintro i v σ H2 H3 hi ⟨s2, n, l, rfl⟩ ⟨T', x, y, rfl, nT, rfl, e1, e2⟩
    cases Option.some.inj e1
    have s3 : Same H2 (upd H2 T' (.tup [.int (i : Nat), y])) := Same.upd nT
    rw [List.length_map, hR.len] at hi
    obtain ⟨q, e3, hq⟩ := ((hR.same s1).same (s2.trans s3)).line hi
    have e2' : (List.map V.ref ps)[i]? = some y := e2
    rw [e3] at e2'
    cases Option.some.inj e2'
    fail "go"
    have := ok.four
    refine r_kF (decide_eq_false (by omega)) ?_
    fail "go"
    refine sp1_mk ?_
    obtain ⟨o1, o2, o3, o4⟩ := ok.at hi
    refine ⟨q, _, _, rfl, hq, o1, o2, o3, o4, ?_⟩
    fail "go"
    exact ⟨s2.trans s3, _, _, rfl⟩
  · rintro σ H2 ⟨s2, n, l, rfl⟩
    fail "go"
    have fin : ∀ H3, Same H2 H3 → Q .non H3 := fun H3 s3 => k H3 (s1.trans (s2.trans s3))
    have last : ∀ n l, kTup [V.str "kept", V.str "anew"] H2 fun y H2' => rIn K true (.str (chS R.kept)) y H2' fun x H1 => kBool x H1 fun b H1 => kIf b (tNever { nx := fun _ H' => Q V.non H', rt := Q } [some (.ref ra), some (.ref la), some (bV R.boost), some (.str (chS R.kept)), n, l] H1) (tNext { nx := fun _ H' => Q V.non H', rt := Q } [some (.ref ra), some (.ref la), some (bV R.boost), some (.str (chS R.kept)), n, l] H1) := by
      intro n l
      refine r_kTup (by decide) fun q nq => ?_
      refine r_in (.inr (SqT.of upd_same)) rfl rfl ?_
      rw [chS_in]
      fail "go"
      exact fin _ (Same.upd nq)
    cases eb : R.boost with
    | none =>
      refine r_kF rfl ?_
      fail "go"
      rw [eb] at last
      exact last _ _
    | some b =>
      refine r_kT rfl ?_
      fail "go"
      refine sp3_mk ?_
      refine ⟨5, 100, rfl, rfl, rfl, ?_⟩
      obtain ⟨b1, b2⟩ := ok.boosts b eb
      have e : numB (bV (some b)) 5 100 = true := by show (decide (5 ≤ b) && decide (b ≤ 100)) = _; simp; omega
      rw [e]
      fail "go"
      rw [eb] at last
      exact last _ _
def sp_need_task (K : PySem.W.Frag) (a : Adr) : Sp := sp1 fun x H Q _ => ∃ t, x = .int t ∧ 0 ≤ t ∧ t ≤ 19 ∧ Q .non H
theorem ok_need_task (T : Txt K mg a) : Cal P w K mg base CX0 2 "need_task" ["task"] (sp_need_task K a) := by
  obtain ⟨fd, F, b⟩ := T.f_need_task
  refine ⟨a.need_task, fd, F.ok sc_need_task (fun vs H Q E h => sp1_len h) (fun cdv A outer s H vs Q E hr h => ?_), T.g_need_task, F.kp, b⟩
  refine ⟨_, (pss_one (ps_if (pt_not (pt_val (q_call (ok_is_number T) (hr.mono (by decide)) pass0 (pa_cons (pv 0) (pa_cons pe_int (pa_cons (q_cI T.g_MOST_TASK) pa_nil))))))
 pss_never
 pss_nil)), ?_⟩
  try dsimp only [cxOf, Cx.nox, Cx.wish, List.map_cons, List.map_nil]
  obtain ⟨x, rfl, h⟩ := h
  rw [show L2.start N_need_task [x] = [some x] from rfl]
  obtain ⟨t, rfl, h1, h2, k⟩ := h
  fail "go"
  refine sp3_mk ?_
  refine ⟨0, 19, rfl, rfl, rfl, ?_⟩
  have e : numB (.int t) 0 19 = true := by show (decide (0 ≤ t) && decide (t ≤ 19)) = _; simp; omega
  rw [e]
  fail "go"
  exact k
end
end Qn

namespace Qn
open PySem L2
local macro_rules | `(tactic| fail "ne") => `(tactic| first | assumption | (apply Ne.symm; assumption) | (apply ne_of_none; assumption; assumption) | (apply Ne.symm; apply ne_of_none; assumption; assumption) | (apply ne_of; assumption; assumption; (intro z; cases z)))
local macro_rules | `(tactic| fail "hp") => `(tactic| with_reducible first | assumption | apply upd_same | (apply upd_old; rotate_left; assumption; fail "hp") | (apply upd_oth; rotate_left; fail "ne"; fail "hp"))
local macro_rules | `(tactic| fail "sl") => `(tactic| with_reducible first | assumption | (apply SqL.of; fail "hp"))
local macro_rules | `(tactic| fail "st") => `(tactic| with_reducible first | assumption | (apply SqT.of; fail "hp"))
local macro_rules | `(tactic| fail "tx") => `(tactic| with_reducible first | assumption | (apply Txt.c_Card; assumption) | (apply Txt.n_Card_line; assumption) | (apply Txt.n_Card_quantum; assumption) | (apply Txt.n_Card_share; assumption) | (apply Txt.n_Card_is_ready; assumption) | (apply Txt.n_Card_spent; assumption) | (apply Txt.c_Lines; assumption) | (apply Txt.n_Lines_rules; assumption) | (apply Txt.n_Lines_cards; assumption) | (apply Txt.n_Lines_rows; assumption) | (apply Txt.n_Lines_time; assumption))
local macro_rules | `(tactic| fail "lk") => `(tactic| with_reducible first | assumption | apply lk_LF_rules | apply lk_LF_cards | apply lk_LF_rows | apply lk_LF_time | apply lk_CF_line | apply lk_CF_quantum | apply lk_CF_share | apply lk_CF_is_ready | apply lk_CF_spent | (apply lk_LF_no; decide +kernel; decide +kernel; decide +kernel; decide +kernel))
local macro_rules | `(tactic| fail "at") => `(tactic| with_reducible first | assumption | apply mc_0 | apply mc_1 | apply mc_2 | apply mc_3 | apply mc_4 | apply at_0 | apply at_1 | apply at_2 | apply at_3 | apply at_4 | (apply atI_nat; assumption) | (apply at_z; assumption))
local macro_rules | `(tactic| fail "go") => `(tactic| repeat (first
  | apply rd_step
  | with_reducible (first
    | (apply r_kFld; fail "hp"; fail "tx"; fail "tx"; fail "lk")
    | (apply r_ixL; fail "sl"; fail "at") | (apply r_ixT; fail "st"; fail "at")
    | (apply r_kMeth; fail "hp"; fail "lk") | (apply r_kBML; fail "sl")
    | (apply r_lenL; fail "sl") | (apply r_lenT; fail "st") | (apply r_lenD; fail "hp")
    | (apply r_kDGetI; fail "hp"; (first | assumption | rfl)) | (apply r_kDGetS; fail "hp"; (first | assumption | apply mv_rules | apply mv_rows | apply mv_cards | apply mv_now)) | (apply r_kDInI; fail "hp") | (apply r_kDNotInI; fail "hp")
    | (apply r_kAugF; fail "hp"; fail "tx"; fail "tx"; fail "lk")
    | (apply r_isi_tuple_tuple; fail "st") | (apply r_isi_list_tuple; fail "sl") | (apply r_isi_list_list; fail "sl") | (apply r_isi_tuple_list; fail "st")
    | (apply r_kUnT; fail "st"; with_unfolding_all rfl) | (apply r_kIL; fail "sl") | (apply r_kIT; fail "st") | (apply r_kIE; fail "st") )))
local macro_rules | `(tactic| fail "eg") => `(tactic| repeat (first
  | apply stp
  | (refine e_rul0 (fun _ => ?_))

  | (refine e_tup0 (fun _ => ?_)) ))
local macro_rules | `(tactic| fail "egs") => `(tactic| (try (with_reducible refine e_seq ?_)) <;> repeat (first
  | apply stp
  | (with_reducible refine e_seq ?_)
  | (refine e_rul0 (fun _ => ?_))

  | (refine e_tup0 (fun _ => ?_)) ))
abbrev LD (a : Adr) : Kd := LKd a.Lines a.Card
section
variable {P : Program} {w : World} {K : PySem.W.Frag} {mg : Str → Option Value} {base : Heap} {a : Adr}
theorem put5 {n : Nat} {s : Addr} : putF "spent" (.ref s) (putF "is_ready" (.bl true) (putF "share" (.int 0) (putF "quantum" (.int 0) (putF "line" (.int 0) [])))) = CF ⟨0, 0, 0, true, List.replicate n 0⟩ s := by
  rw [put_nil (f := "line"), put_miss (f := "quantum") (by decide +kernel), put_nil (f := "quantum"), put_miss (f := "share") (by decide +kernel), put_miss (f := "share") (by decide +kernel), put_nil (f := "share"),
    put_miss (f := "is_ready") (by decide +kernel), put_miss (f := "is_ready") (by decide +kernel), put_miss (f := "is_ready") (by decide +kernel), put_nil (f := "is_ready"),
    put_miss (f := "spent") (by decide +kernel), put_miss (f := "spent") (by decide +kernel), put_miss (f := "spent") (by decide +kernel), put_miss (f := "spent") (by decide +kernel), put_nil (f := "spent")]
  rfl
theorem len_put {f : Str} {v : V} : ∀ {fs : List (Str × V)}, (putF f v fs).length ≤ fs.length + 1
  | [] => by rw [put_nil]; simp
  | (g, u) :: r => by
    unfold putF
    by_cases e : g = f
    · rw [if_pos e]; simp
    · rw [if_neg e]
      have := len_put (f := f) (v := v) (fs := r)
      simp; omega
/-- a card is made: its fields, its list -/
def sp_Card__init (K : PySem.W.Frag) (a : Adr) : Sp := sp2 fun x y H Q _ => ∃ p dx n, x = .ref p ∧ y = .int (n : Nat) ∧ n ≤ 1000 ∧ H p = some (.ins a.Card dx []) ∧
  ∀ s H', H s = none → H' p = some (.ins a.Card dx (CF ⟨0, 0, 0, true, List.replicate n 0⟩ s)) → H' s = some (.lst ((List.replicate n 0).map V.int)) → (∀ b o, H b = some o → b ≠ p → H' b = some o) → Q .non H'
theorem ok_Card__init (T : Txt K mg a) : CalC P w K mg base CX0 1 a.Card "Card" ["self", "many"] (sp_Card__init K a) := by
  obtain ⟨fd, F, b⟩ := T.f_Card__init
  refine ⟨a.Card__init, fd, F.ok sc_Card__init (fun vs H Q E h => sp2_len h) (fun cdv A outer s H vs Q E hr h => ?_), T.k_Card, T.g_Card, b⟩
  refine ⟨_, (pss_cons (ps_fld (pv 0) pe_int rfl)
 (pss_cons (ps_fld (pv 0) pe_int rfl)
 (pss_cons (ps_fld (pv 0) pe_int rfl)
 (pss_cons (ps_fld (pv 0) pe_bl rfl)
 (pss_one (ps_fld (pv 0) (pe_op op_rep (pe_lst (pa_cons pe_int pa_nil)) (pv 1)) rfl)))))), ?_⟩
  try dsimp only [cxOf, Cx.nox, Cx.wish, List.map_cons, List.map_nil]
  obtain ⟨x, y, rfl, h⟩ := h
  rw [show L2.start N_Card__init [x, y] = [some x, some y] from rfl]
  obtain ⟨p, dx, n, rfl, rfl, hn, hp, k⟩ := h
  fail "go"
  refine r_kSetF hp T.c_Card T.n_Card_line (by decide) ?_
  fail "go"
  refine r_kSetF upd_same T.c_Card T.n_Card_quantum (by decide +kernel) ?_
  fail "go"
  refine r_kSetF upd_same T.c_Card T.n_Card_share (by decide +kernel) ?_
  fail "go"
  refine r_kSetF upd_same T.c_Card T.n_Card_is_ready (by decide +kernel) ?_
  fail "go"
  refine r_kLst (by decide) fun q nq => ?_
  have ne1 : p ≠ q := fun z => by rw [← z, upd_same] at nq; cases nq
  fail "go"
  refine r_rep1 (n := n) upd_same (by omega) fun s ns => ?_
  have ne2 : p ≠ s := fun z => by rw [← z, upd_ne ne1, upd_same] at ns; cases ns
  have ne3 : q ≠ s := fun z => by rw [← z, upd_same] at ns; cases ns
  fail "go"
  refine r_kSetF (C := a.Card) (dx := dx) (by rw [upd_ne ne2, upd_ne ne1]; exact upd_same) T.c_Card T.n_Card_spent (by decide +kernel) ?_
  refine k s _ ?_ (by rw [put5 (n := n)]; exact upd_same) ?_ ?_
  · rw [upd_ne (Ne.symm ne3), upd_ne (Ne.symm ne2), upd_ne (Ne.symm ne2), upd_ne (Ne.symm ne2), upd_ne (Ne.symm ne2)] at ns
    exact ns
  · rw [upd_ne (Ne.symm ne2), upd_same, List.map_replicate]
  · intro b o hb nb
    have n1 : b ≠ q := fun z => by rw [z] at hb; rw [upd_ne (Ne.symm ne1), upd_ne (Ne.symm ne1), upd_ne (Ne.symm ne1), upd_ne (Ne.symm ne1)] at nq; rw [hb] at nq; cases nq
    have n2 : b ≠ s := fun z => by
      rw [upd_ne (Ne.symm ne3), upd_ne (Ne.symm ne2), upd_ne (Ne.symm ne2), upd_ne (Ne.symm ne2), upd_ne (Ne.symm ne2)] at ns
      rw [z] at hb; rw [hb] at ns; cases ns
    rw [upd_ne nb, upd_ne n2, upd_ne n1, upd_ne nb, upd_ne nb, upd_ne nb, upd_ne nb]
    exact hb
def sp_Lines_need_there (K : PySem.W.Frag) (a : Adr) : Sp := sp2 fun x y H Q _ => ∃ g S t c, x = .ref (g.adr .self) ∧ y = .int t ∧ LR (LD a) g S H ∧ look S.cards t = some c ∧ 0 ≤ t ∧ t ≤ 19 ∧ Q .non H
theorem ok_Lines_need_there (T : Txt K mg a) : CalM P w K mg base CX0 3 a.Lines "need_there" ["self", "task"] (sp_Lines_need_there K a) := by
  obtain ⟨fd, F, b⟩ := T.f_Lines_need_there
  refine ⟨a.Lines_need_there, fd, F.ok sc_Lines_need_there (fun vs H Q E h => sp2_len h) (fun cdv A outer s H vs Q E hr h => ?_), T.m_Lines_need_there, b, T.c_Lines⟩
  refine ⟨_, (pss_cons (ps_expr (q_call (ok_need_task T) (hr.mono (by decide)) pass0 (pa_cons (pv 1) pa_nil)))
 (pss_one (ps_if (pt_cmp (pc_dnotin (by exact hu_of hr) (pv 1) (pe_fld (pv 0) rfl)))
 pss_never
 pss_nil))), ?_⟩
  try dsimp only [cxOf, Cx.nox, Cx.wish, List.map_cons, List.map_nil]
  obtain ⟨x, y, rfl, h⟩ := h
  rw [show L2.start N_Lines_need_there [x, y] = [some x, some y] from rfl]
  obtain ⟨g, S, t, c, rfl, rfl, L, e, h1, h2, k⟩ := h
  have hself := L.sf
  have hcards := L.hcards
  fail "go"
  refine sp1_mk ?_
  refine ⟨t, rfl, h1, h2, ?_⟩
  fail "go"
  rw [card_get e]
  fail "go"
  exact k
def sp_Lines_lay (K : PySem.W.Frag) (a : Adr) : Sp := sp3 fun x y z H Q _ => ∃ g S R t c l, x = .ref (g.adr .self) ∧ y = .int t ∧ z = .int (l : Nat) ∧ LR (LD a) g S H ∧ (∃ la ps, RulAt H g.ra R la ps) ∧ look S.cards t = some c ∧ l < S.rows.length ∧ S.rows.length = R.lines.length ∧ (S.row l).length < 100000 ∧
  ∀ H', LS (LD a) (Foot g S) H g (S.lay R t l) H' → Q .non H'
theorem ok_Lines_lay (T : Txt K mg a) : CalM P w K mg base CX0 1 a.Lines "lay" ["self", "task", "line"] (sp_Lines_lay K a) := by
  obtain ⟨fd, F, b⟩ := T.f_Lines_lay
  refine ⟨a.Lines_lay, fd, F.ok sc_Lines_lay (fun vs H Q E h => sp3_len h) (fun cdv A outer s H vs Q E hr h => ?_), T.m_Lines_lay, b, T.c_Lines⟩
  refine ⟨_, (pss_cons (ps_set (i := 3) sc_Lines_lay.nd rfl (Or.inl rfl) (pe_dget (by exact hu_of hr) (pe_fld (pv 0) rfl) (pv 1) (fun _ _ => rfl)))
 (pss_cons (ps_fld (pv 3) (pv 2) rfl)
 (pss_cons (ps_fld (pv 3) (pe_ix ix_tup (pe_ix ix_tup (pe_ix ix_tup (pe_fld (pv 0) rfl) (q_cI T.g_LINES) (fun _ _ => rfl)) (pv 2) (fun _ _ => rfl)) pe_int (fun _ _ => rfl)) rfl)
 (pss_one (ps_expr (pe_bm PySem.F.plainAttrs_list PySem.F.slot_list_append PySem.F.type_list_append mt_append (pe_ix ix_list (pe_fld (pv 0) rfl) (pv 2) (fun _ _ => rfl)) (pa_cons (pv 1) pa_nil))))))), ?_⟩
  try dsimp only [cxOf, Cx.nox, Cx.wish, List.map_cons, List.map_nil]
  obtain ⟨x, y, z, rfl, h⟩ := h
  rw [show L2.start N_Lines_lay [x, y, z] = [some x, some y, some z, none] from rfl]
  obtain ⟨g, S, R, t, c, l, rfl, rfl, rfl, L, ⟨la, ps, hR⟩, e, hl, hn, hz, k⟩ := h
  have L0 := L.start
  have hself := L.sf
  have hcards := L.hcards
  have hget := card_get (g := g) e
  fail "go"
  refine k_line L0 e T.c_Card T.n_Card_line fun H1 L1 => ?_
  have hself := L1.lr.sf
  have hR1 := hR.frame L1.st.1
  have h1 := hR1.rules
  have h2 := hR1.lines
  obtain ⟨p, e3, hp⟩ := hR1.line (l := l) (by omega)
  obtain ⟨t1, q1⟩ := T.g_LINES
  fail "go"
  have e1 : look (S.upC t fun c => { c with line := l }).cards t = some { c with line := l } := by rw [look_upC, if_pos rfl, e]; rfl
  refine k_quantum L1 e1 T.c_Card T.n_Card_quantum fun H2 L2 => ?_
  rw [LSt.upC_upC] at L2
  have hself := L2.lr.sf
  have hrws := L2.lr.hrws
  fail "go"
  have r1 := row_get (g := g) (S := (S.upC t fun c => { c with line := l, q := R.q l })) (l := l) hl
  refine r_ixL (SqL.of hrws) r1 ?_
  have hrow := L2.lr.hrow (LSt.row_at (S := (S.upC t fun c => { c with line := l, q := R.q l })) (l := l) hl)
  fail "go"
  refine k_append L2 hl hz fun H3 L3 => ?_
  exact k H3 L3
def sp_Lines_come (K : PySem.W.Frag) (a : Adr) : Sp := sp2 fun x y H Q _ => ∃ g R S t, x = .ref (g.adr .self) ∧ y = .int t ∧ LA (LD a) (Foot g S) H g R S H ∧ look S.cards t = none ∧ 0 ≤ t ∧ t ≤ 19 ∧
  ∀ g' H', g'.adr .self = g.adr .self → LA (LD a) (Foot g S) H g' R (S.come R t) H' → Q .non H'
theorem ok_Lines_come (T : Txt K mg a) : CalM P w K mg base CX0 3 a.Lines "come" ["self", "task"] (sp_Lines_come K a) := by
  obtain ⟨fd, F, b⟩ := T.f_Lines_come
  refine ⟨a.Lines_come, fd, F.ok sc_Lines_come (fun vs H Q E h => sp2_len h) (fun cdv A outer s H vs Q E hr h => ?_), T.m_Lines_come, b, T.c_Lines⟩
  refine ⟨_, (pss_cons (ps_expr (q_call (ok_need_task T) (hr.mono (by decide)) pass0 (pa_cons (pv 1) pa_nil)))
 (pss_cons (ps_if (pt_cmp (pc_din (by exact hu_of hr) (pv 1) (pe_fld (pv 0) rfl)))
 pss_never
 pss_nil)
 (pss_cons (ps_dput (by exact hu_of hr) (pe_fld (pv 0) rfl) (pv 1) (q_make (ok_Card__init T) (hr.mono (by decide)) pass0 (pa_cons (pe_callB qr_len (by rfl) T.z_len (by decide +kernel) (pa_cons (pe_fld (pv 0) rfl) pa_nil)) pa_nil)) rfl)
 (pss_cons (ps_fld (pe_dget (by exact hu_of hr) (pe_fld (pv 0) rfl) (pv 1) (fun _ _ => rfl)) (pe_ix ix_tup (pe_ix ix_tup (pe_ix ix_tup (pe_fld (pv 0) rfl) (q_cI T.g_LINES) (fun _ _ => rfl)) pe_int (fun _ _ => rfl)) pe_int (fun _ _ => rfl)) rfl)
 (pss_one (ps_expr (q_meth (ok_Lines_lay T) (hr.mono (by decide)) pass0 (pv 0) (pa_cons (pv 1) (pa_cons pe_int pa_nil))))))))), ?_⟩
  try dsimp only [cxOf, Cx.nox, Cx.wish, List.map_cons, List.map_nil]
  obtain ⟨x, y, rfl, h⟩ := h
  rw [show L2.start N_Lines_come [x, y] = [some x, some y] from rfl]
  obtain ⟨g, R, S, t, rfl, rfl, A, e, h1, h2, k⟩ := h
  have hself := A.ls.lr.sf
  have hcards := A.ls.lr.hcards
  have hrws := A.ls.lr.hrws
  fail "go"
  refine sp1_mk ?_
  refine ⟨t, rfl, h1, h2, ?_⟩
  fail "go"
  rw [card_no e]
  fail "go"
  intro x dx nx ndx nxd
  refine sp2_mk ?_
  refine ⟨x, dx, S.rows.length, rfl, by rw [List.length_map, List.length_range], ?_, upd_same, ?_⟩
  · rw [A.len]; have := A.ok.four; omega
  intro s H1 ns hx hs old
  refine ⟨rfl, ?_⟩
  have keep : ∀ b o, H b = some o → H1 b = some o := fun b o hb => by
    have n1 : b ≠ x := fun z => by rw [z, nx] at hb; cases hb
    have n2 : b ≠ dx := fun z => by rw [z, ndx] at hb; cases hb
    exact old b o (by rw [upd_ne n1, upd_ne n2]; exact hb) n1
  have nxs : x ≠ s := fun z => by rw [← z, upd_same] at ns; cases ns
  have ns0 : H s = none := by
    cases q : H s with
    | none => rfl
    | some o =>
      have n1 : s ≠ dx := fun z => by rw [z, ndx] at q; cases q
      rw [upd_ne (Ne.symm nxs), upd_ne n1, q] at ns; cases ns
  have hself1 := keep _ _ hself
  have hcards1 := keep _ _ hcards
  fail "go"
  refine r_kDPutI hcards1 (by unfold refs; rw [List.length_map]; have := A.wf.cards20; omega) ?_
  have fx : ¬ Foot g S x := A.ls.fresh nx
  have fs : ¬ Foot g S s := A.ls.fresh ns0
  have nxc : x ≠ g.adr .cards := fun z => by rw [z, hcards] at nx; cases nx
  have nsc : s ≠ g.adr .cards := fun z => by rw [z, hcards] at ns0; cases ns0
  have L2 : LS (LD a) (Foot g S) H (g.put t x s dx) { S with cards := S.cards ++ [(t, ⟨0, 0, 0, true, List.replicate S.rows.length 0⟩)] } (upd H1 (g.adr .cards) (.dK (putK (refs (fun t => g.adr (.card t)) S.cards) (.inl t) (.ref x)))) := by
    refine ⟨A.ls.lr.come e fx fs nxs (fun i o ho hi => ?_) upd_same ?_ ?_, ⟨fun b o hb nb => ?_, fun b xs hb => ?_⟩, fun b hb => ?_⟩
    · rw [upd_ne fun z => hi (A.ls.lr.inj i .cards (cont_live ho) trivial z)]
      exact keep _ _ (A.ls.lr.there i o ho)
    · rw [upd_ne nxc, hx]
      show _ = some (HO.ins a.Card ((g.put t x s dx).cdx t) _)
      rw [put_cdx]
    · rw [upd_ne nsc, hs]
    · rw [upd_ne fun z => nb ⟨.cards, trivial, z.symm⟩]; exact keep b o hb
    · rw [upd_ne fun z => by rw [z, hcards] at hb; cases hb]; exact keep b _ hb
    · rcases foot_come e hb with z | z | z
      · exact .inl z
      · exact .inr (z ▸ nx)
      · exact .inr (z ▸ ns0)
  generalize upd H1 (g.adr .cards) (.dK (putK (refs (fun t => g.adr (.card t)) S.cards) (.inl t) (.ref x))) = H2 at L2 ⊢
  have hs2 : (g.put t x s dx).adr .self = g.adr .self := put_other (by intro z; cases z) (by intro z; cases z)
  rw [← hs2]
  have e2 : look ({ S with cards := S.cards ++ [(t, ⟨0, 0, 0, true, List.replicate S.rows.length 0⟩)] } : LSt).cards t = some ⟨0, 0, 0, true, List.replicate S.rows.length 0⟩ := by
    show look (S.cards ++ [(t, _)]) t = _
    rw [look_snoc e, if_pos rfl]
  obtain ⟨la, ps, hR⟩ := A.rul
  have hR2 : RulAt H2 (g.put t x s dx).ra R la ps := hR.frame L2.st.1
  have hself2 := L2.lr.sf
  have hcards2 := L2.lr.hcards
  have hget2 := card_get (g := g.put t x s dx) e2
  have hr1 := hR2.rules
  have hr2 := hR2.lines
  obtain ⟨pl, e3, hpl⟩ := hR2.line (l := 0) A.ok.one
  obtain ⟨t1, q1⟩ := T.g_LINES
  fail "go"
  refine k_share L2 e2 T.c_Card T.n_Card_share fun H3 L3 => ?_
  rw [add_up e] at L3
  have e4 : look ({ S with cards := S.cards ++ [(t, LSt.fresh R S.rows.length)] } : LSt).cards t = some (LSt.fresh R S.rows.length) := by
    show look (S.cards ++ [(t, _)]) t = _
    rw [look_snoc e, if_pos rfl]
  have hR3 := hR.frame L3.st.1
  have hself3 := L3.lr.sf
  fail "go"
  refine sp3_mk ?_
  refine ⟨g.put t x s dx, _, R, t, LSt.fresh R S.rows.length, 0, rfl, rfl, rfl, L3.lr, ⟨la, ps, hR3⟩, e4, A.one, A.len, by have := A.wf.short 0; show (S.row 0).length < _; omega, fun H4 L4 => ?_⟩
  have L5 := L3.trans L4
  exact k _ H4 hs2 ⟨L5, ⟨la, ps, hR.frame L5.st.1⟩, A.ok, A.wf.come e ⟨h1, h2⟩ A.ok.one⟩
def sp_Lines_go (K : PySem.W.Frag) (a : Adr) : Sp := sp2 fun x y H Q _ => ∃ g R S t c, x = .ref (g.adr .self) ∧ y = .int t ∧ LA (LD a) (Foot g S) H g R S H ∧ look S.cards t = some c ∧
  ∀ H', LA (LD a) (Foot g S) H g R (S.go t) H' → Q .non H'
theorem ok_Lines_go (T : Txt K mg a) : CalM P w K mg base CX0 4 a.Lines "go" ["self", "task"] (sp_Lines_go K a) := by
  obtain ⟨fd, F, b⟩ := T.f_Lines_go
  refine ⟨a.Lines_go, fd, F.ok sc_Lines_go (fun vs H Q E h => sp2_len h) (fun cdv A outer s H vs Q E hr h => ?_), T.m_Lines_go, b, T.c_Lines⟩
  refine ⟨_, (pss_cons (ps_expr (q_meth (ok_Lines_need_there T) (hr.mono (by decide)) pass0 (pv 0) (pa_cons (pv 1) pa_nil)))
 (pss_cons (ps_set (i := 2) sc_Lines_go.nd rfl (Or.inl rfl) (pe_dpop1 (pe_fld (pv 0) rfl) (pv 1) ⟨rfl, rfl, rfl, rfl⟩))
 (pss_one (ps_if (pt_val (pe_fld (pv 2) rfl))
 (pss_one (ps_expr (pe_bm PySem.F.plainAttrs_list PySem.F.slot_list_remove PySem.F.type_list_remove mt_remove (pe_ix ix_list (pe_fld (pv 0) rfl) (pe_fld (pv 2) rfl) (fun _ _ => rfl)) (pa_cons (pv 1) pa_nil))))
 pss_nil)))), ?_⟩
  try dsimp only [cxOf, Cx.nox, Cx.wish, List.map_cons, List.map_nil]
  obtain ⟨x, y, rfl, h⟩ := h
  rw [show L2.start N_Lines_go [x, y] = [some x, some y, none] from rfl]
  obtain ⟨g, R, S, t, c, rfl, rfl, A, e, k⟩ := h
  have hself := A.ls.lr.sf
  have hcards := A.ls.lr.hcards
  have L0 := A.ls
  have kr := A.wf.key t c e
  fail "go"
  refine sp2_mk ?_
  refine ⟨g, S, t, c, rfl, rfl, A.ls.lr, e, kr.1, kr.2.1, ?_⟩
  fail "go"
  refine ⟨_, rfl, .inl ⟨_, .inl hcards⟩, ?_⟩
  fail "go"
  refine ⟨_, .inl t, _, hcards, rfl, card_get e, ?_⟩
  rw [refs_drop]
  have L1 := L0.drop (t := t)
  have nc : g.adr (.card t) ≠ g.adr .cards := fun z => by
    have := A.ls.lr.inj (.card t) .cards (by show look S.cards t ≠ none; rw [e]; simp) trivial z
    cases this
  have hcard : upd H (g.adr .cards) (.dK (refs (fun t => g.adr (.card t)) (S.drop t).cards)) (g.adr (.card t)) = _ := (upd_ne nc).trans (A.ls.lr.cd e)
  show gName _ _ _ (upd H (g.adr .cards) (.dK (refs (fun t => g.adr (.card t)) (S.drop t).cards))) _
  generalize upd H (g.adr .cards) (.dK (refs (fun t => g.adr (.card t)) (S.drop t).cards)) = H1 at L1 hcard ⊢
  have hself := L1.lr.sf
  have hrws := L1.lr.hrws
  obtain ⟨la, ps, hR⟩ := A.rul
  fail "go"
  refine r_kIf (fun rd => ?_) (fun rd => ?_)
  · have r1 := row_get (g := g) (S := S.drop t) (l := c.line) (A.at_ e)
    have hrow := L1.lr.hrow (LSt.row_at (S := S.drop t) (l := c.line) (A.at_ e))
    fail "go"
    refine k_remove L1 (A.at_ e) ((A.wf.mem c.line t).mpr ⟨by simp, c, e, rd, rfl⟩) fun H2 L2 => ?_
    fail "go"
    refine k H2 ⟨?_, ⟨la, ps, hR.frame L2.st.1⟩, A.ok, A.wf.go e⟩
    unfold LSt.go
    rw [LSt.card_of e, if_pos rd]
    exact L2
  · fail "go"
    refine k H1 ⟨?_, ⟨la, ps, hR.frame L1.st.1⟩, A.ok, A.wf.go e⟩
    unfold LSt.go
    rw [LSt.card_of e, if_neg (by rw [rd]; simp)]
    exact L1
def sp_Lines_wait (K : PySem.W.Frag) (a : Adr) : Sp := sp2 fun x y H Q _ => ∃ g R S t c, x = .ref (g.adr .self) ∧ y = .int t ∧ LA (LD a) (Foot g S) H g R S H ∧ look S.cards t = some c ∧ c.rdy = true ∧
  ∀ H', LA (LD a) (Foot g S) H g R (S.wait t) H' → Q .non H'
theorem ok_Lines_wait (T : Txt K mg a) : CalM P w K mg base CX0 4 a.Lines "wait" ["self", "task"] (sp_Lines_wait K a) := by
  obtain ⟨fd, F, b⟩ := T.f_Lines_wait
  refine ⟨a.Lines_wait, fd, F.ok sc_Lines_wait (fun vs H Q E h => sp2_len h) (fun cdv A outer s H vs Q E hr h => ?_), T.m_Lines_wait, b, T.c_Lines⟩
  refine ⟨_, (pss_cons (ps_expr (q_meth (ok_Lines_need_there T) (hr.mono (by decide)) pass0 (pv 0) (pa_cons (pv 1) pa_nil)))
 (pss_cons (ps_set (i := 2) sc_Lines_wait.nd rfl (Or.inl rfl) (pe_dget (by exact hu_of hr) (pe_fld (pv 0) rfl) (pv 1) (fun _ _ => rfl)))
 (pss_cons (ps_if (pt_not (pt_val (pe_fld (pv 2) rfl)))
 pss_never
 pss_nil)
 (pss_cons (ps_fld (pv 2) pe_bl rfl)
 (pss_one (ps_expr (pe_bm PySem.F.plainAttrs_list PySem.F.slot_list_remove PySem.F.type_list_remove mt_remove (pe_ix ix_list (pe_fld (pv 0) rfl) (pe_fld (pv 2) rfl) (fun _ _ => rfl)) (pa_cons (pv 1) pa_nil)))))))), ?_⟩
  try dsimp only [cxOf, Cx.nox, Cx.wish, List.map_cons, List.map_nil]
  obtain ⟨x, y, rfl, h⟩ := h
  rw [show L2.start N_Lines_wait [x, y] = [some x, some y, none] from rfl]
  obtain ⟨g, R, S, t, c, rfl, rfl, A, e, rd, k⟩ := h
  have hself := A.ls.lr.sf
  have hcards := A.ls.lr.hcards
  have hget := card_get (g := g) e
  have hcard := A.ls.lr.cd e
  have L0 := A.ls
  have kr := A.wf.key t c e
  fail "go"
  refine sp2_mk ?_
  refine ⟨g, S, t, c, rfl, rfl, A.ls.lr, e, kr.1, kr.2.1, ?_⟩
  fail "go"
  rw [rd]
  fail "go"
  refine k_ready L0 e T.c_Card T.n_Card_is_ready fun H1 L1 => ?_
  have e1 : look (S.upC t fun c => { c with rdy := false }).cards t = some { c with rdy := false } := by rw [look_upC, if_pos rfl, e]; rfl
  have hself := L1.lr.sf
  have hrws := L1.lr.hrws
  have hcard := L1.lr.cd e1
  have r1 := row_get (g := g) (S := (S.upC t fun c => { c with rdy := false })) (l := c.line) (A.at_ e)
  have hrow := L1.lr.hrow (LSt.row_at (S := (S.upC t fun c => { c with rdy := false })) (l := c.line) (A.at_ e))
  fail "go"
  refine k_remove L1 (A.at_ e) ((A.wf.mem c.line t).mpr ⟨by simp, c, e, rd, rfl⟩) fun H2 L2 => ?_
  obtain ⟨la, ps, hR⟩ := A.rul
  refine k H2 ⟨?_, ⟨la, ps, hR.frame L2.st.1⟩, A.ok, A.wf.wait e⟩
  unfold LSt.wait
  rw [LSt.card_of e]
  exact L2
end
end Qn

namespace Qn
open PySem L2
local macro_rules | `(tactic| fail "ne") => `(tactic| first | assumption | (apply Ne.symm; assumption) | (apply ne_of_none; assumption; assumption) | (apply Ne.symm; apply ne_of_none; assumption; assumption) | (apply ne_of; assumption; assumption; (intro z; cases z)))
local macro_rules | `(tactic| fail "hp") => `(tactic| with_reducible first | assumption | apply upd_same | (apply upd_old; rotate_left; assumption; fail "hp") | (apply upd_oth; rotate_left; fail "ne"; fail "hp"))
local macro_rules | `(tactic| fail "sl") => `(tactic| with_reducible first | assumption | (apply SqL.of; fail "hp"))
local macro_rules | `(tactic| fail "st") => `(tactic| with_reducible first | assumption | (apply SqT.of; fail "hp"))
local macro_rules | `(tactic| fail "tx") => `(tactic| with_reducible first | assumption | (apply Txt.c_Card; assumption) | (apply Txt.n_Card_line; assumption) | (apply Txt.n_Card_quantum; assumption) | (apply Txt.n_Card_share; assumption) | (apply Txt.n_Card_is_ready; assumption) | (apply Txt.n_Card_spent; assumption) | (apply Txt.c_Lines; assumption) | (apply Txt.n_Lines_rules; assumption) | (apply Txt.n_Lines_cards; assumption) | (apply Txt.n_Lines_rows; assumption) | (apply Txt.n_Lines_time; assumption))
local macro_rules | `(tactic| fail "lk") => `(tactic| with_reducible first | assumption | apply lk_LF_rules | apply lk_LF_cards | apply lk_LF_rows | apply lk_LF_time | apply lk_CF_line | apply lk_CF_quantum | apply lk_CF_share | apply lk_CF_is_ready | apply lk_CF_spent | (apply lk_LF_no; decide +kernel; decide +kernel; decide +kernel; decide +kernel))
local macro_rules | `(tactic| fail "at") => `(tactic| with_reducible first | assumption | apply mc_0 | apply mc_1 | apply mc_2 | apply mc_3 | apply mc_4 | apply at_0 | apply at_1 | apply at_2 | apply at_3 | apply at_4 | (apply atI_nat; assumption) | (apply at_z; assumption))
local macro_rules | `(tactic| fail "go") => `(tactic| repeat (first
  | apply rd_step
  | with_reducible (first
    | (apply r_kFld; fail "hp"; fail "tx"; fail "tx"; fail "lk")
    | (apply r_ixL; fail "sl"; fail "at") | (apply r_ixT; fail "st"; fail "at")
    | (apply r_kMeth; fail "hp"; fail "lk") | (apply r_kBML; fail "sl")
    | (apply r_lenL; fail "sl") | (apply r_lenT; fail "st") | (apply r_lenD; fail "hp")
    | (apply r_kDGetI; fail "hp"; (first | assumption | rfl)) | (apply r_kDGetS; fail "hp"; (first | assumption | apply mv_rules | apply mv_rows | apply mv_cards | apply mv_now)) | (apply r_kDInI; fail "hp") | (apply r_kDNotInI; fail "hp")
    | (apply r_kAugF; fail "hp"; fail "tx"; fail "tx"; fail "lk")
    | (apply r_isi_tuple_tuple; fail "st") | (apply r_isi_list_tuple; fail "sl") | (apply r_isi_list_list; fail "sl") | (apply r_isi_tuple_list; fail "st")
    | (apply r_kUnT; fail "st"; with_unfolding_all rfl) | (apply r_kIL; fail "sl") | (apply r_kIT; fail "st") | (apply r_kIE; fail "st") )))
local macro_rules | `(tactic| fail "eg") => `(tactic| repeat (first
  | apply stp
  | (refine e_rul0 (fun _ => ?_))

  | (refine e_tup0 (fun _ => ?_)) ))
local macro_rules | `(tactic| fail "egs") => `(tactic| (try (with_reducible refine e_seq ?_)) <;> repeat (first
  | apply stp
  | (with_reducible refine e_seq ?_)
  | (refine e_rul0 (fun _ => ?_))

  | (refine e_tup0 (fun _ => ?_)) ))
section
variable {P : Program} {w : World} {K : PySem.W.Frag} {mg : Str → Option Value} {base : Heap} {a : Adr}
def sp_Lines_wake (K : PySem.W.Frag) (a : Adr) : Sp := sp2 fun x y H Q _ => ∃ g R S t c, x = .ref (g.adr .self) ∧ y = .int t ∧ LA (LD a) (Foot g S) H g R S H ∧ look S.cards t = some c ∧ c.rdy = false ∧
  ∀ H', LA (LD a) (Foot g S) H g R (S.wake R t) H' → Q .non H'
theorem ok_Lines_wake (T : Txt K mg a) : CalM P w K mg base CX0 4 a.Lines "wake" ["self", "task"] (sp_Lines_wake K a) := by
  obtain ⟨fd, F, b⟩ := T.f_Lines_wake
  refine ⟨a.Lines_wake, fd, F.ok sc_Lines_wake (fun vs H Q E h => sp2_len h) (fun cdv A outer s H vs Q E hr h => ?_), T.m_Lines_wake, b, T.c_Lines⟩
  refine ⟨_, (pss_cons (ps_expr (q_meth (ok_Lines_need_there T) (hr.mono (by decide)) pass0 (pv 0) (pa_cons (pv 1) pa_nil)))
 (pss_cons (ps_set (i := 2) sc_Lines_wake.nd rfl (Or.inl rfl) (pe_dget (by exact hu_of hr) (pe_fld (pv 0) rfl) (pv 1) (fun _ _ => rfl)))
 (pss_cons (ps_if (pt_val (pe_fld (pv 2) rfl))
 pss_never
 pss_nil)
 (pss_cons (ps_fld (pv 2) pe_bl rfl)
 (pss_cons (ps_if (pt_cmpR op_eq (pe_ix ix_tup (pe_fld (pv 0) rfl) (q_cI T.g_CHARGE) (fun _ _ => rfl)) (q_cS T.g_ANEW) (nomark _))
 (pss_one (ps_fld (pv 2) (pe_ix ix_tup (pe_ix ix_tup (pe_ix ix_tup (pe_fld (pv 0) rfl) (q_cI T.g_LINES) (fun _ _ => rfl)) (pe_fld (pv 2) rfl) (fun _ _ => rfl)) pe_int (fun _ _ => rfl)) rfl))
 pss_nil)
 (pss_one (ps_expr (q_meth (ok_Lines_lay T) (hr.mono (by decide)) pass0 (pv 0) (pa_cons (pv 1) (pa_cons (pe_fld (pv 2) rfl) pa_nil)))))))))), ?_⟩
  try dsimp only [cxOf, Cx.nox, Cx.wish, List.map_cons, List.map_nil]
  obtain ⟨x, y, rfl, h⟩ := h
  rw [show L2.start N_Lines_wake [x, y] = [some x, some y, none] from rfl]
  obtain ⟨g, R, S, t, c, rfl, rfl, A, e, rd, k⟩ := h
  have hself := A.ls.lr.sf
  have hcards := A.ls.lr.hcards
  have hget := card_get (g := g) e
  have hcard := A.ls.lr.cd e
  have L0 := A.ls
  have kr := A.wf.key t c e
  obtain ⟨la, ps, hR⟩ := A.rul
  obtain ⟨t2, q2⟩ := T.g_CHARGE
  obtain ⟨t3, q3⟩ := T.g_ANEW
  obtain ⟨t4, q4⟩ := T.g_LINES
  fail "go"
  refine sp2_mk ?_
  refine ⟨g, S, t, c, rfl, rfl, A.ls.lr, e, kr.1, kr.2.1, ?_⟩
  fail "go"
  rw [rd]
  fail "go"
  refine k_ready L0 e T.c_Card T.n_Card_is_ready fun H1 L1 => ?_
  have e1 : look (S.upC t fun c => { c with rdy := true }).cards t = some { c with rdy := true } := by rw [look_upC, if_pos rfl, e]; rfl
  have hself := L1.lr.sf
  have hcard := L1.lr.cd e1
  have hR1 := hR.frame L1.st.1
  have hr1 := hR1.rules
  have hr2 := hR1.lines
  obtain ⟨pl, e3, hpl⟩ := hR1.line (l := c.line) kr.2.2.1
  fail "go"
  have fin : ∀ H2, LS (LD a) (Foot g S) H g (S.upC t fun c => { c with rdy := true, sh := if R.kept then c.sh else R.s c.line }) H2 →
      tDrop (tMeth a.Lines "lay" (sp_Lines_lay K a) [] E0 (tVar 0) (tCons (tVar 1) (tCons (tFld K (tVar 2) "line") tNil))) { nx := fun x H' => Q V.non H', rt := Q } [some (V.ref (g.adr LC.self)), some (V.int t), some (V.ref (g.adr (LC.card t)))] H2 := fun H2 L2 => by
    have e2 : look (S.upC t fun c => { c with rdy := true, sh := if R.kept then c.sh else R.s c.line }).cards t = some { c with rdy := true, sh := if R.kept then c.sh else R.s c.line } := by rw [look_upC, if_pos rfl, e]; rfl
    have hself := L2.lr.sf
    have hcard := L2.lr.cd e2
    fail "go"
    refine sp3_mk ?_
    refine ⟨g, _, R, t, _, c.line, rfl, rfl, rfl, L2.lr, ⟨la, ps, hR.frame L2.st.1⟩, e2, A.at_ e, A.len, by have := A.wf.short c.line; show (S.row c.line).length < _; omega, fun H3 L3 => ?_⟩
    have L4 := L2.trans L3
    refine k H3 ⟨?_, ⟨la, ps, hR.frame L4.st.1⟩, A.ok, A.wf.wake e rd⟩
    unfold LSt.wake
    rw [LSt.card_of e]
    exact L4
  rw [chS_anew]
  refine r_kIf (fun hk => ?_) (fun hk => ?_)
  · have hk' : R.kept = false := by simpa using hk
    fail "go"
    refine k_share L1 e1 T.c_Card T.n_Card_share fun H2 L2 => ?_
    rw [LSt.upC_upC] at L2
    refine fin H2 ?_
    rw [LSt.upC_eq (f := fun c => { c with rdy := true, sh := if R.kept then c.sh else R.s c.line }) (g := fun d => { d with rdy := true, sh := R.s c.line }) e A.wf.nd (by rw [hk']; rfl)]
    exact L2
  · have hk' : R.kept = true := by simpa using hk
    refine r_next ?_
    refine fin H1 ?_
    rw [hk']
    exact L1
def sp_Lines_now (K : PySem.W.Frag) (a : Adr) : Sp := sp1 fun x H Q _ => ∃ g S, x = .ref (g.adr .self) ∧ LR (LD a) g S H ∧ Q (.int S.time) H
theorem ok_Lines_now (T : Txt K mg a) : CalM P w K mg base CX0 1 a.Lines "now" ["self"] (sp_Lines_now K a) := by
  obtain ⟨fd, F, b⟩ := T.f_Lines_now
  refine ⟨a.Lines_now, fd, F.ok sc_Lines_now (fun vs H Q E h => sp1_len h) (fun cdv A outer s H vs Q E hr h => ?_), T.m_Lines_now, b, T.c_Lines⟩
  refine ⟨_, (pss_one (ps_ret (pe_fld (pv 0) rfl))), ?_⟩
  try dsimp only [cxOf, Cx.nox, Cx.wish, List.map_cons, List.map_nil]
  obtain ⟨x, rfl, h⟩ := h
  rw [show L2.start N_Lines_now [x] = [some x] from rfl]
  obtain ⟨g, S, rfl, L, k⟩ := h
  have hself := L.sf
  fail "go"
  exact k
def sp_Lines_card (K : PySem.W.Frag) (a : Adr) : Sp := sp2 fun x y H Q _ => ∃ g S t c, x = .ref (g.adr .self) ∧ y = .int t ∧ LR (LD a) g S H ∧ look S.cards t = some c ∧ 0 ≤ t ∧ t ≤ 19 ∧
  ∀ p, H p = none → Q (.ref p) (upd H p (.tup [.int c.line, .int c.q, .int c.sh, .bl c.rdy]))
theorem ok_Lines_card (T : Txt K mg a) : CalM P w K mg base CX0 4 a.Lines "card" ["self", "task"] (sp_Lines_card K a) := by
  obtain ⟨fd, F, b⟩ := T.f_Lines_card
  refine ⟨a.Lines_card, fd, F.ok sc_Lines_card (fun vs H Q E h => sp2_len h) (fun cdv A outer s H vs Q E hr h => ?_), T.m_Lines_card, b, T.c_Lines⟩
  refine ⟨_, (pss_cons (ps_expr (q_meth (ok_Lines_need_there T) (hr.mono (by decide)) pass0 (pv 0) (pa_cons (pv 1) pa_nil)))
 (pss_cons (ps_set (i := 2) sc_Lines_card.nd rfl (Or.inl rfl) (pe_dget (by exact hu_of hr) (pe_fld (pv 0) rfl) (pv 1) (fun _ _ => rfl)))
 (pss_one (ps_ret (pe_tup (pa_cons (pe_fld (pv 2) rfl) (pa_cons (pe_fld (pv 2) rfl) (pa_cons (pe_fld (pv 2) rfl) (pa_cons (pe_fld (pv 2) rfl) pa_nil))))))))), ?_⟩
  try dsimp only [cxOf, Cx.nox, Cx.wish, List.map_cons, List.map_nil]
  obtain ⟨x, y, rfl, h⟩ := h
  rw [show L2.start N_Lines_card [x, y] = [some x, some y, none] from rfl]
  obtain ⟨g, S, t, c, rfl, rfl, L, e, h1, h2, k⟩ := h
  have hself := L.sf
  have hcards := L.hcards
  have hget := card_get (g := g) e
  have hcard := L.cd e
  fail "go"
  refine sp2_mk ?_
  refine ⟨g, S, t, c, rfl, rfl, L, e, h1, h2, ?_⟩
  fail "go"
  exact r_kTup (by simp) k
def sp_Lines_used (K : PySem.W.Frag) (a : Adr) : Sp := sp2 fun x y H Q _ => ∃ g S t c, x = .ref (g.adr .self) ∧ y = .int t ∧ LR (LD a) g S H ∧ look S.cards t = some c ∧ 0 ≤ t ∧ t ≤ 19 ∧
  ∀ p, H p = none → Q (.ref p) (upd H p (.lst (c.sp.map V.int)))
theorem ok_Lines_used (T : Txt K mg a) : CalM P w K mg base CX0 4 a.Lines "used" ["self", "task"] (sp_Lines_used K a) := by
  obtain ⟨fd, F, b⟩ := T.f_Lines_used
  refine ⟨a.Lines_used, fd, F.ok sc_Lines_used (fun vs H Q E h => sp2_len h) (fun cdv A outer s H vs Q E hr h => ?_), T.m_Lines_used, b, T.c_Lines⟩
  refine ⟨_, (pss_cons (ps_expr (q_meth (ok_Lines_need_there T) (hr.mono (by decide)) pass0 (pv 0) (pa_cons (pv 1) pa_nil)))
 (pss_one (ps_ret (pe_callTy qr_list (by rfl) T.z_list (by decide +kernel) (pa_cons (pe_fld (pe_dget (by exact hu_of hr) (pe_fld (pv 0) rfl) (pv 1) (fun _ _ => rfl)) rfl) pa_nil))))), ?_⟩
  try dsimp only [cxOf, Cx.nox, Cx.wish, List.map_cons, List.map_nil]
  obtain ⟨x, y, rfl, h⟩ := h
  rw [show L2.start N_Lines_used [x, y] = [some x, some y] from rfl]
  obtain ⟨g, S, t, c, rfl, rfl, L, e, h1, h2, k⟩ := h
  have hself := L.sf
  have hcards := L.hcards
  have hget := card_get (g := g) e
  have hcard := L.cd e
  have hspt := L.hspt e
  fail "go"
  refine sp2_mk ?_
  refine ⟨g, S, t, c, rfl, rfl, L, e, h1, h2, ?_⟩
  fail "go"
  exact r_listL (SqL.of hspt) k
/-- the numbers of the tasks that are there -/
def tasksOf (S : LSt) : List Int := all20.filter fun t => (look S.cards t).isSome
def sp_Lines_tasks (K : PySem.W.Frag) (a : Adr) : Sp := sp1 fun x H Q _ => ∃ g S, x = .ref (g.adr .self) ∧ LR (LD a) g S H ∧ ∀ p H', H p = none → Same H H' → H' p = some (.lst ((tasksOf S).map V.int)) → Q (.ref p) H'
theorem ok_Lines_tasks (T : Txt K mg a) : CalM P w K mg base CX0 1 a.Lines "tasks" ["self"] (sp_Lines_tasks K a) := by
  obtain ⟨fd, F, b⟩ := T.f_Lines_tasks
  refine ⟨a.Lines_tasks, fd, F.ok sc_Lines_tasks (fun vs H Q E h => sp1_len h) (fun cdv A outer s H vs Q E hr h => ?_), T.m_Lines_tasks, b, T.c_Lines⟩
  refine ⟨_, (pss_one (ps_ret (pe_lc (own := [("task", 1)]) (g := (gName 1)) (tt := (tB (tDIn (tVar 1) (tFld K (tVar 0) "cards")))) (te := (tVar 1)) rfl sc_Lines_tasks.nd (pi_range1 rfl T.z_range (pa_cons (pe_op qo_add (q_cI T.g_MOST_TASK) pe_int) pa_nil)) (blkOk_by (N := N_Lines_tasks) (sc := (defScope s_Lines_tasks)) (by decide +kernel)) (fun _ _ _ _ _ => (pg_name (i := 1) sc_Lines_tasks.nd rfl (Or.inl rfl))) (fun _ _ _ _ _ => (pts_one (pt_cmp (pc_din (by exact hu_of hr) (pv 1) (pe_fld (pv 0) rfl))))) (fun _ _ _ _ _ => (pv 1))))), ?_⟩
  try dsimp only [cxOf, Cx.nox, Cx.wish, List.map_cons, List.map_nil]
  obtain ⟨x, rfl, h⟩ := h
  rw [show L2.start N_Lines_tasks [x] = [some x, none] from rfl]
  obtain ⟨g, S, rfl, L, k⟩ := h
  obtain ⟨t1, q1⟩ := T.g_MOST_TASK
  fail "go"
  refine r_kIR1 (by omega) ?_
  refine w_lc (σ0 := [some (.ref (g.adr .self)), none]) walk_range rfl (fun D i acc H' => Same H H' ∧ acc = (((List.range i).map Int.ofNat).filter fun t => (look S.cards t).isSome).map V.int) (fun D hD => ⟨Same.upd hD, rfl⟩) (fun _ _ _ _ _ _ _ _ => trivial) ?_ ?_
  · rintro D i acc x H1 H2 hD hi ha ⟨s1, rfl⟩ ⟨rfl, rfl⟩
    have L1 := L.same s1
    have hself := L1.sf
    have hcards := L1.hcards
    fail "go"
    refine ⟨rfl, ?_⟩
    fail "go"
    have hz : ((((List.range i).map Int.ofNat).filter fun t => (look S.cards t).isSome).map V.int).length < 100000 := by
      rw [List.length_map]
      have := List.length_filter_le (fun t => (look S.cards t).isSome) ((List.range i).map Int.ofNat)
      rw [List.length_map, List.length_range] at this
      omega
    have step : ((List.range (i + 1)).map Int.ofNat).filter (fun t => (look S.cards t).isSome) = ((List.range i).map Int.ofNat).filter (fun t => (look S.cards t).isSome) ++ (if (look S.cards (i : Nat)).isSome then [((i : Nat) : Int)] else []) := by
      rw [List.range_succ, List.map_append, List.filter_append]
      congr 1
      by_cases e : (look S.cards (i : Nat)).isSome
      · rw [if_pos e]; simp [e]
      · rw [if_neg e]; simp [e]
    rw [valV_refs, Int.zero_add, Option.isSome_map]
    refine r_kIf (fun e => ?_) (fun e => ?_)
    · show tVar 1 [some (V.ref (g.adr LC.self)), some (V.int (0 + (i : Nat)))] H2 _
      rw [Int.zero_add]
      fail "go"
      refine r_kApp ha hz ⟨Same.late s1 hD, ?_⟩
      rw [step, if_pos e, List.map_append]; rfl
    · refine ⟨_, ha, s1, ?_⟩
      rw [step, if_neg (by rw [e]; simp), List.append_nil]
  · rintro D acc H1 hD ha ⟨s1, rfl⟩
    exact k D H1 hD s1 ha
def sp_Lines_lines (K : PySem.W.Frag) (a : Adr) : Sp := sp1 fun x H Q _ => ∃ g S, x = .ref (g.adr .self) ∧ LR (LD a) g S H ∧ S.rows.length ≤ 1000 ∧
  ∀ (D : Addr) (qs : List Addr) (H' : Hp), H D = none → Same H H' → H' D = some (.lst (qs.map V.ref)) → qs.length = S.rows.length → (∀ (j : Nat) (q : Addr), qs[j]? = some q → H q = none ∧ q ≠ D ∧ H' q = some (.lst ((S.row j).map V.int))) → Q (.ref D) H'
theorem ok_Lines_lines (T : Txt K mg a) : CalM P w K mg base CX0 1 a.Lines "lines" ["self"] (sp_Lines_lines K a) := by
  obtain ⟨fd, F, b⟩ := T.f_Lines_lines
  refine ⟨a.Lines_lines, fd, F.ok sc_Lines_lines (fun vs H Q E h => sp1_len h) (fun cdv A outer s H vs Q E hr h => ?_), T.m_Lines_lines, b, T.c_Lines⟩
  refine ⟨_, (pss_one (ps_ret (pe_lc (own := [("row", 1)]) (g := (gName 1)) (tt := tYes) (te := (tCB (cLst K) (tCons (tVar 1) tNil))) rfl sc_Lines_lines.nd (pi_list (pe_fld (pv 0) rfl)) (blkOk_by (N := N_Lines_lines) (sc := (defScope s_Lines_lines)) (by decide +kernel)) (fun _ _ _ _ _ => (pg_name (i := 1) sc_Lines_lines.nd rfl (Or.inl rfl))) (fun _ _ _ _ _ => pts_nil) (fun _ _ _ _ _ => (pe_callTy qr_list (by rfl) T.z_list (by decide +kernel) (pa_cons (pv 1) pa_nil)))))), ?_⟩
  try dsimp only [cxOf, Cx.nox, Cx.wish, List.map_cons, List.map_nil]
  obtain ⟨x, rfl, h⟩ := h
  rw [show L2.start N_Lines_lines [x] = [some x, none] from rfl]
  obtain ⟨g, S, rfl, L, hz, k⟩ := h
  have hself := L.sf
  have hrws := L.hrws
  fail "go"
  have w := walk_list (K := K) (a := g.adr .rws) (xs := (List.range S.rows.length).map fun i => V.ref (g.adr (.row i)))
  rw [List.length_map, List.length_range] at w
  refine w_lc (σ0 := [some (.ref (g.adr .self)), none]) w rfl (fun D i acc H' => Same H H' ∧ ∃ qs : List Addr, acc = qs.map V.ref ∧ qs.length = i ∧ ∀ (j : Nat) (q : Addr), qs[j]? = some q → H q = none ∧ q ≠ D ∧ H' q = some (.lst ((S.row j).map V.int)))
    (fun D hD => ⟨Same.upd hD, [], rfl, rfl, fun j q e => by cases e⟩) (fun D i acc H' hD hi ha p => SqL.of (p.1 _ _ hrws)) ?_ ?_
  · rintro D i acc x H1 H2 hD hi ha ⟨s1, qs, rfl, hl, N⟩ ⟨rfl, hx⟩
    rw [List.getElem?_map, List.getElem?_range hi] at hx
    cases Option.some.inj hx
    have hrow := s1 _ _ (L.hrow (LSt.row_at hi))
    fail "go"
    refine ⟨rfl, ?_⟩
    fail "go"
    refine r_listL (SqL.of hrow) fun q nq => ?_
    have nD : D ≠ q := fun z => by rw [← z, ha] at nq; cases nq
    refine r_kApp (by rw [upd_ne nD]; exact ha) (by rw [List.length_map]; omega) ⟨Same.late (s1.trans (Same.upd nq)) hD, qs ++ [q], by rw [List.map_append]; rfl, by simp [hl], fun j b e => ?_⟩
    have n1 : H q = none := by
      cases e : H q with
      | none => rfl
      | some o => rw [s1 q o e] at nq; cases nq
    by_cases hj : j < qs.length
    · rw [List.getElem?_append_left hj] at e
      obtain ⟨a1, a2, a3⟩ := N j b e
      exact ⟨a1, a2, by rw [upd_ne a2, upd_ne fun z => by rw [z, nq] at a3; cases a3]; exact a3⟩
    · have ej : j = i := by
        have := (List.getElem?_eq_some_iff.mp e).1
        simp at this; omega
      subst ej
      rw [List.getElem?_append_right (by omega), hl, Nat.sub_self] at e
      cases Option.some.inj e
      exact ⟨n1, Ne.symm nD, by rw [upd_ne (Ne.symm nD)]; exact upd_same⟩
  · rintro D acc H1 hD ha ⟨s1, qs, rfl, hl, N⟩
    exact k D qs H1 hD s1 ha hl N
def oV : Option Int → V := bV
def sp_Lines_first (K : PySem.W.Frag) (a : Adr) : Sp := sp1 fun x H Q _ => ∃ g S, x = .ref (g.adr .self) ∧ LR (LD a) g S H ∧ S.rows.length ≤ 1000 ∧ ∀ H', Same H H' → Q (bV S.first) H'
theorem ok_Lines_first (T : Txt K mg a) : CalM P w K mg base CX0 1 a.Lines "first" ["self"] (sp_Lines_first K a) := by
  obtain ⟨fd, F, b⟩ := T.f_Lines_first
  refine ⟨a.Lines_first, fd, F.ok sc_Lines_first (fun vs H Q E h => sp1_len h) (fun cdv A outer s H vs Q E hr h => ?_), T.m_Lines_first, b, T.c_Lines⟩
  refine ⟨_, (pss_cons (ps_setLc (i := 1) (own := [("row", 2)]) (g := (gName 2)) (tt := (tTest (tOp (rNeD K) (tVar 2) (tLst tNil)))) (te := (tVar 2)) rfl sc_Lines_first.nd rfl rfl (sw_true rfl rfl rfl (by decide +kernel)) (pi_list (pe_fld (pv 0) rfl)) (blkOk_by (N := N_Lines_first) (sc := (defScope s_Lines_first)) (by decide +kernel)) (fun _ _ _ _ _ => (pg_name (i := 2) sc_Lines_first.nd rfl (Or.inl rfl))) (fun _ _ _ _ _ => (pts_one (pt_cmpR (op_neD (by exact hr.units)) (pv 2) (pe_lst pa_nil) (nomark _)))) (fun _ _ _ _ _ => (pv 2)))
 (pss_one (ps_ret (pe_ifExp (pt_cmpR (op_neD (by exact hr.units)) (pv 1) (pe_lst pa_nil) (nomark _)) (pe_ix ix_list (pe_ix ix_list (pv 1) pe_int (fun _ _ => rfl)) pe_int (fun _ _ => rfl)) pe_non)))), ?_⟩
  try dsimp only [cxOf, Cx.nox, Cx.wish, List.map_cons, List.map_nil]
  obtain ⟨x, rfl, h⟩ := h
  rw [show L2.start N_Lines_first [x] = [some x, none, none] from rfl]
  obtain ⟨g, S, rfl, L, hz, k⟩ := h
  have hself := L.sf
  have hrws := L.hrws
  fail "go"
  have w := walk_list (K := K) (a := g.adr .rws) (xs := (List.range S.rows.length).map fun i => V.ref (g.adr (.row i)))
  rw [List.length_map, List.length_range] at w
  refine w_lc (σ0 := [some (.ref (g.adr .self)), none, none]) w rfl (fun D i acc H' => Same H H' ∧ acc = ((List.range i).filter fun j => !(S.row j).isEmpty).map fun j => V.ref (g.adr (.row j)))
    (fun D hD => ⟨Same.upd hD, rfl⟩) (fun D i acc H' hD hi ha p => SqL.of (p.1 _ _ hrws)) ?_ ?_
  · rintro D i acc x H1 H2 hD hi ha ⟨s1, rfl⟩ ⟨rfl, hx⟩
    rw [List.getElem?_map, List.getElem?_range hi] at hx
    cases Option.some.inj hx
    have hrow := s1 _ _ (L.hrow (LSt.row_at hi))
    fail "go"
    refine ⟨rfl, ?_⟩
    fail "go"
    refine r_kLst (by decide) fun q nq => ?_
    refine r_neE_ints (SqL.of (upd_old hrow nq)) (SqL.of upd_same) ?_
    have nD : D ≠ q := fun z => by rw [← z, ha] at nq; cases nq
    have s2 : Same H (upd H2 q (.lst [])) := s1.trans (Same.upd nq)
    have ha2 : upd H2 q (.lst []) D = _ := (upd_ne nD).trans ha
    have hlen : (((List.range i).filter fun j => !(S.row j).isEmpty).map fun j => V.ref (g.adr (.row j))).length < 100000 := by
      rw [List.length_map]
      have := List.length_filter_le (fun j => !(S.row j).isEmpty) (List.range i)
      rw [List.length_range] at this
      omega
    fail "go"
    refine r_kIf (fun e => ?_) (fun e => ?_)
    · fail "go"
      refine r_kApp ha2 hlen ⟨Same.late s2 hD, ?_⟩
      rw [List.range_succ, List.filter_append, List.map_append]
      simp [e]
    · refine ⟨_, ha2, s2, ?_⟩
      rw [List.range_succ, List.filter_append, List.map_append]
      simp [e]
  · rintro D acc H1 hD ha ⟨s1, rfl⟩
    have hd : ∀ H2, Same H H2 → H2 D = some (.lst (S.rdyIx.map fun j => V.ref (g.adr (.row j)))) → Dp K H2 (.ref D) (.list (S.rdyIx.map fun j => .list ((S.row j).map .int))) := by
      intro H2 s1 ha
      refine .lst (SqL.of ha) (dpAll_map fun j hj => ?_)
      have hj' : j < S.rows.length := List.mem_range.mp (List.mem_filter.mp hj).1
      exact dp_ints (SqL.of (s1 _ _ (L.hrow (LSt.row_at hj'))))
    fail "go"
    refine r_kLst (by decide) fun q nq => ?_
    refine r_neE_lst (hd _ (s1.trans (Same.upd nq)) (upd_old ha nq)) ((sh_lst (n := 1) (sh_map fun j => sh_ints)).mono (by decide)) (SqL.of upd_same) ?_
    have s2 : Same H (upd H1 q (.lst [])) := s1.trans (Same.upd nq)
    have ha2 := upd_old (o' := .lst []) ha nq
    generalize upd H1 q (.lst []) = H2 at s2 ha2 ⊢
    fail "go"
    have hix : ((List.range S.rows.length).filter fun j => !(S.row j).isEmpty) = S.rdyIx := rfl
    rw [hix] at ha2
    have kk := k H2 s2
    unfold LSt.first at kk
    cases e : S.rdyIx with
    | nil =>
      rw [e] at kk
      fail "go"
      refine r_kF rfl ?_
      fail "go"
      exact kk
    | cons j r =>
      rw [e] at kk ha2
      have hj : j ∈ S.rdyIx := by rw [e]; exact List.mem_cons_self
      obtain ⟨hj1, hj2⟩ := List.mem_filter.mp hj
      have hrow := s2 _ _ (L.hrow (LSt.row_at (List.mem_range.mp hj1)))
      rw [List.map_cons] at ha2
      refine r_kT rfl ?_
      fail "go"
      cases e2 : S.row j with
      | nil => rw [e2] at hj2; cases hj2
      | cons u v =>
        rw [e2] at hrow
        have kk : Q (bV (some ((S.row j).headD 0))) H2 := kk
        rw [e2] at kk
        rw [List.map_cons] at hrow
        fail "go"
        exact kk
end
end Qn

namespace Qn
open PySem L2
local macro_rules | `(tactic| fail "ne") => `(tactic| first | assumption | (apply Ne.symm; assumption) | (apply ne_of_none; assumption; assumption) | (apply Ne.symm; apply ne_of_none; assumption; assumption) | (apply ne_of; assumption; assumption; (intro z; cases z)))
local macro_rules | `(tactic| fail "hp") => `(tactic| with_reducible first | assumption | apply upd_same | (apply upd_old; rotate_left; assumption; fail "hp") | (apply upd_oth; rotate_left; fail "ne"; fail "hp"))
local macro_rules | `(tactic| fail "sl") => `(tactic| with_reducible first | assumption | (apply SqL.of; fail "hp"))
local macro_rules | `(tactic| fail "st") => `(tactic| with_reducible first | assumption | (apply SqT.of; fail "hp"))
local macro_rules | `(tactic| fail "tx") => `(tactic| with_reducible first | assumption | (apply Txt.c_Card; assumption) | (apply Txt.n_Card_line; assumption) | (apply Txt.n_Card_quantum; assumption) | (apply Txt.n_Card_share; assumption) | (apply Txt.n_Card_is_ready; assumption) | (apply Txt.n_Card_spent; assumption) | (apply Txt.c_Lines; assumption) | (apply Txt.n_Lines_rules; assumption) | (apply Txt.n_Lines_cards; assumption) | (apply Txt.n_Lines_rows; assumption) | (apply Txt.n_Lines_time; assumption))
local macro_rules | `(tactic| fail "lk") => `(tactic| with_reducible first | assumption | apply lk_LF_rules | apply lk_LF_cards | apply lk_LF_rows | apply lk_LF_time | apply lk_CF_line | apply lk_CF_quantum | apply lk_CF_share | apply lk_CF_is_ready | apply lk_CF_spent | (apply lk_LF_no; decide +kernel; decide +kernel; decide +kernel; decide +kernel))
local macro_rules | `(tactic| fail "at") => `(tactic| with_reducible first | assumption | apply mc_0 | apply mc_1 | apply mc_2 | apply mc_3 | apply mc_4 | apply at_0 | apply at_1 | apply at_2 | apply at_3 | apply at_4 | (apply atI_nat; assumption) | (apply at_z; assumption))
local macro_rules | `(tactic| fail "go") => `(tactic| repeat (first
  | apply rd_step
  | with_reducible (first
    | (apply r_kFld; fail "hp"; fail "tx"; fail "tx"; fail "lk")
    | (apply r_ixL; fail "sl"; fail "at") | (apply r_ixT; fail "st"; fail "at")
    | (apply r_kMeth; fail "hp"; fail "lk") | (apply r_kBML; fail "sl")
    | (apply r_lenL; fail "sl") | (apply r_lenT; fail "st") | (apply r_lenD; fail "hp")
    | (apply r_kDGetI; fail "hp"; (first | assumption | rfl)) | (apply r_kDGetS; fail "hp"; (first | assumption | apply mv_rules | apply mv_rows | apply mv_cards | apply mv_now)) | (apply r_kDInI; fail "hp") | (apply r_kDNotInI; fail "hp")
    | (apply r_kAugF; fail "hp"; fail "tx"; fail "tx"; fail "lk")
    | (apply r_isi_tuple_tuple; fail "st") | (apply r_isi_list_tuple; fail "sl") | (apply r_isi_list_list; fail "sl") | (apply r_isi_tuple_list; fail "st")
    | (apply r_kUnT; fail "st"; with_unfolding_all rfl) | (apply r_kIL; fail "sl") | (apply r_kIT; fail "st") | (apply r_kIE; fail "st") )))
local macro_rules | `(tactic| fail "eg") => `(tactic| repeat (first
  | apply stp
  | (refine e_rul0 (fun _ => ?_))

  | (refine e_tup0 (fun _ => ?_)) ))
local macro_rules | `(tactic| fail "egs") => `(tactic| (try (with_reducible refine e_seq ?_)) <;> repeat (first
  | apply stp
  | (with_reducible refine e_seq ?_)
  | (refine e_rul0 (fun _ => ?_))

  | (refine e_tup0 (fun _ => ?_)) ))
section
variable {P : Program} {w : World} {K : PySem.W.Frag} {mg : Str → Option Value} {base : Heap} {a : Adr}
theorem mod_set {xs : List Int} {i : Nat} {m x : Int} (h : xs[i]? = some x) : xs.set i (x + m) = xs.modify i (· + m) := by
  apply List.ext_getElem?
  intro j
  rw [List.getElem?_modify]
  by_cases e : i = j
  · subst e
    have hi := (List.getElem?_eq_some_iff.mp h).1
    rw [List.getElem?_set_self hi, h]; simp
  · rw [List.getElem?_set_ne e]
    cases xs[j]? <;> simp [e]
def sp_Lines_charge (K : PySem.W.Frag) (a : Adr) : Sp := sp3 fun x y z H Q _ => ∃ g R S t c m, x = .ref (g.adr .self) ∧ y = .int t ∧ z = .int m ∧ LA (LD a) (Foot g S) H g R S H ∧ look S.cards t = some c ∧ c.rdy = true ∧
  ∀ H', LA (LD a) (Foot g S) H g R (S.charge R t m) H' → Q .non H'
theorem ok_Lines_charge (T : Txt K mg a) : CalM P w K mg base CX0 2 a.Lines "charge" ["self", "task", "many"] (sp_Lines_charge K a) := by
  obtain ⟨fd, F, b⟩ := T.f_Lines_charge
  refine ⟨a.Lines_charge, fd, F.ok sc_Lines_charge (fun vs H Q E h => sp3_len h) (fun cdv A outer s H vs Q E hr h => ?_), T.m_Lines_charge, b, T.c_Lines⟩
  refine ⟨_, (pss_cons (ps_set (i := 3) sc_Lines_charge.nd rfl (Or.inl rfl) (pe_dget (by exact hu_of hr) (pe_fld (pv 0) rfl) (pv 1) (fun _ _ => rfl)))
 (pss_cons (ps_augS (pe_fld (pv 3) rfl) (pe_fld (pv 3) rfl) qg_list (pv 2) ip_add set_list)
 (pss_cons (ps_fldaug (pv 3) (pv 2) in_sub)
 (pss_cons (ps_fldaug (pv 3) (pv 2) in_sub)
 (pss_cons (ps_set (i := 4) sc_Lines_charge.nd rfl (Or.inl rfl) (pe_op qo_sub (pe_callB qr_len (by rfl) T.z_len (by decide +kernel) (pa_cons (pe_fld (pv 0) rfl) pa_nil)) pe_int))
 (pss_one (ps_if (pt_cmpR op_eq (pe_fld (pv 3) rfl) pe_int (nomark _))
 (pss_cons (ps_set (i := 5) sc_Lines_charge.nd rfl (Or.inl rfl) (pe_callB (qr_min2 rfl) (by rfl) T.z_min (by decide +kernel) (pa_cons (pv 4) (pa_cons (pe_op qo_add (pe_fld (pv 3) rfl) pe_int) pa_nil))))
 (pss_cons (ps_fld (pv 3) (pe_ix ix_tup (pe_ix ix_tup (pe_ix ix_tup (pe_fld (pv 0) rfl) (q_cI T.g_LINES) (fun _ _ => rfl)) (pv 5) (fun _ _ => rfl)) pe_int (fun _ _ => rfl)) rfl)
 (pss_one (ps_if (PW.pt (pw_or (pt_cmpR qo_lt (pe_fld (pv 3) rfl) (pv 4) (nomark _)) (pw_or1 (pt_cmpR op_eq (pe_fld (pv 3) rfl) pe_int (nomark _)))))
 (pss_cons (ps_expr (pe_bm PySem.F.plainAttrs_list PySem.F.slot_list_remove PySem.F.type_list_remove mt_remove (pe_ix ix_list (pe_fld (pv 0) rfl) (pe_fld (pv 3) rfl) (fun _ _ => rfl)) (pa_cons (pv 1) pa_nil)))
 (pss_one (ps_expr (q_meth (ok_Lines_lay T) (hr.mono (by decide)) pass0 (pv 0) (pa_cons (pv 1) (pa_cons (pv 5) pa_nil))))))
 pss_nil))))
 (pss_one (ps_if (pt_cmpR op_eq (pe_fld (pv 3) rfl) pe_int (nomark _))
 (pss_cons (ps_expr (pe_bm PySem.F.plainAttrs_list PySem.F.slot_list_remove PySem.F.type_list_remove mt_remove (pe_ix ix_list (pe_fld (pv 0) rfl) (pe_fld (pv 3) rfl) (fun _ _ => rfl)) (pa_cons (pv 1) pa_nil)))
 (pss_one (ps_expr (q_meth (ok_Lines_lay T) (hr.mono (by decide)) pass0 (pv 0) (pa_cons (pv 1) (pa_cons (pe_fld (pv 3) rfl) pa_nil))))))
 pss_nil))))))))), ?_⟩
  try dsimp only [cxOf, Cx.nox, Cx.wish, List.map_cons, List.map_nil]
  obtain ⟨x, y, z, rfl, h⟩ := h
  rw [show L2.start N_Lines_charge [x, y, z] = [some x, some y, some z, none, none, none] from rfl]
  obtain ⟨g, R, S, t, c, m, rfl, rfl, rfl, A, e, rd, k⟩ := h
  have kr := A.wf.key t c e
  obtain ⟨la, ps, hR⟩ := A.rul
  have wfc := A.wf.charge (R := R) (m := m) e rd A.ok.one
  have k2 : ∀ H', LS (LD a) (Foot g S) H g (S.charge R t m) H' → Q .non H' := fun H' L => k H' ⟨L, ⟨la, ps, hR.frame L.st.1⟩, A.ok, wfc⟩
  have hself := A.ls.lr.sf
  have hcards := A.ls.lr.hcards
  have hget := card_get (g := g) e
  have hcard := A.ls.lr.cd e
  have hspt := A.ls.lr.hspt e
  have hsl : c.line < c.sp.length := by have := kr.2.2.1; have := kr.2.2.2; omega
  obtain ⟨x, hx⟩ : ∃ x, c.sp[c.line]? = some x := ⟨_, List.getElem?_eq_getElem hsl⟩
  obtain ⟨t4, q4⟩ := T.g_LINES
  fail "go"
  refine r_ixL (SqL.of hspt) (atI_nat (by rw [List.getElem?_map, hx]; rfl)) ?_
  fail "go"
  refine k_spent A.ls e hsl fun H1 L1 => ?_
  have e1 : look (S.upC t fun c' => { c' with sp := c'.sp.set c.line (x + m) }).cards t = some { c with sp := c.sp.set c.line (x + m) } := by rw [look_upC, if_pos rfl, e]; rfl
  have hcard := L1.lr.cd e1
  fail "go"
  refine ka_quantum L1 e1 fun H2 L2 => ?_
  rw [LSt.upC_upC] at L2
  have e2 : look (S.upC t fun c' => { c' with sp := c'.sp.set c.line (x + m), q := c.q - m }).cards t = some { c with sp := c.sp.set c.line (x + m), q := c.q - m } := by rw [look_upC, if_pos rfl, e]; rfl
  have hcard := L2.lr.cd e2
  fail "go"
  refine ka_share L2 e2 fun H3 L3 => ?_
  rw [LSt.upC_upC, LSt.upC_eq (g := fun c => { c with sp := c.sp.modify c.line (· + m), q := c.q - m, sh := c.sh - m }) e A.wf.nd (by show Card.mk _ _ _ _ _ = Card.mk _ _ _ _ _; rw [mod_set hx])] at L3
  have e3 : look (S.upC t fun c => { c with sp := c.sp.modify c.line (· + m), q := c.q - m, sh := c.sh - m }).cards t = some { c with sp := c.sp.modify c.line (· + m), q := c.q - m, sh := c.sh - m } := by rw [look_upC, if_pos rfl, e]; rfl
  have w3 := A.wf.upC (t := t) (f := fun c => { c with sp := c.sp.modify c.line (· + m), q := c.q - m, sh := c.sh - m }) fun c => ⟨rfl, rfl, List.length_modify ..⟩
  unfold LSt.charge at k2
  rw [LSt.card_of e] at k2
  dsimp only at k2
  have hrl : (S.upC t fun c => { c with sp := c.sp.modify c.line (· + m), q := c.q - m, sh := c.sh - m }).rows.length = S.rows.length := rfl
  generalize (S.upC t fun c => { c with sp := c.sp.modify c.line (· + m), q := c.q - m, sh := c.sh - m }) = S3 at L3 e3 k2 w3 hrl
  have hself := L3.lr.sf
  have hrws := L3.lr.hrws
  have hcard := L3.lr.cd e3
  have hR3 := hR.frame L3.st.1
  have h1 := hR3.rules
  have h2 := hR3.lines
  have hlen := A.len
  have hone := A.one
  have h4 := A.ok.four
  fail "go"
  rw [List.length_map, List.length_range, hrl]
  /- the task is laid again at a line -/
  have again : ∀ (l : Nat) (S4 : LSt) (H4 : Hp) (c4 : Card) (tl : TE) (v5 : Option V), l < S.rows.length → S4.rows.length = S.rows.length → Wf R.lines.length [] S4 → LS (LD a) (Foot g S) H g S4 H4 → look S4.cards t = some c4 → c4.rdy = true → c4.line = c.line →
      (∀ H' Q', LS (LD a) (Foot g S) H g (S4.upR c.line (·.erase t)) H' → Q' (.int (l : Nat)) H' → tl [some (.ref (g.adr .self)), some (.int t), some (.int m), some (.ref (g.adr (.card t))), some (.int ((S.rows.length : Nat) - 1)), v5] H' Q') →
      (∀ H', LS (LD a) (Foot g S) H g ((S4.upR c.line (·.erase t)).lay R t l) H' → Q .non H') →
      tSeq (tDrop (tBM K "list" rRemI (tOp (rIxL K) (tFld K (tVar 0) "rows") (tFld K (tVar 3) "line")) (tCons (tVar 1) tNil))) (tDrop (tMeth a.Lines "lay" (sp_Lines_lay K a) [] E0 (tVar 0) (tCons (tVar 1) (tCons tl tNil)))) { nx := fun x H' => Q V.non H', rt := Q }
        [some (.ref (g.adr .self)), some (.int t), some (.int m), some (.ref (g.adr (.card t))), some (.int ((S.rows.length : Nat) - 1)), v5] H4 := by
    intro l S4 H4 c4 tl v5 hl hn w4 L4 e4 r4 l4 ht kk
    have hself := L4.lr.sf
    have hrws := L4.lr.hrws
    have hcard := L4.lr.cd e4
    have hln : c4.line < S4.rows.length := by rw [hn, l4]; exact A.at_ e
    have r1 := row_get (g := g) (S := S4) (l := c4.line) hln
    have hrow := L4.lr.hrow (LSt.row_at (S := S4) (l := c4.line) hln)
    fail "go"
    refine k_remove L4 hln ((w4.mem c4.line t).mpr ⟨by simp, c4, e4, r4, rfl⟩) fun H5 L5 => ?_
    have w5 := w4.off e4
    rw [l4] at L5 w5
    have hself := L5.lr.sf
    fail "go"
    refine ht H5 _ L5 ?_
    fail "go"
    refine sp3_mk ?_
    refine ⟨g, _, R, t, c4, l, rfl, rfl, rfl, L5.lr, ⟨la, ps, hR.frame L5.st.1⟩, e4, ?_, ?_, ?_, fun H6 L6 => ?_⟩
    · rw [LSt.rows_upR, hn]; exact hl
    · rw [LSt.rows_upR, hn]; exact A.len
    · have := w5.short l; omega
    · exact kk H6 (L5.trans L6)
  refine r_kIf (fun hd => ?_) (fun hd => ?_)
  · have h0 : c.sh - m = 0 := of_decide_eq_true hd
    rw [if_pos h0] at k2
    fail "go"
    have el : (if (c.line : Int) + 1 < (S.rows.length : Nat) - 1 then (c.line : Int) + 1 else (S.rows.length : Nat) - 1) = ((min (S.rows.length - 1) (c.line + 1) : Nat) : Int) := by split <;> omega
    rw [el]
    generalize hl : min (S.rows.length - 1) (c.line + 1) = l at k2 ⊢
    have hl' : l < S.rows.length := by omega
    obtain ⟨pl, e5, hpl⟩ := hR3.line (l := l) (by omega)
    fail "go"
    refine k_share L3 e3 T.c_Card T.n_Card_share fun H4 L4 => ?_
    have e4 : look (S3.upC t fun c => { c with sh := R.s l }).cards t = some { c with sp := c.sp.modify c.line (· + m), q := c.q - m, sh := R.s l } := by rw [look_upC, if_pos rfl, e3]; rfl
    have w4 := w3.upC (t := t) (f := fun c => { c with sh := R.s l }) fun c => ⟨rfl, rfl, rfl⟩
    have hcard := L4.lr.cd e4
    have yes : (c.line < S.rows.length - 1 ∨ c.q - m = 0) → tSeq (tDrop (tBM K "list" rRemI (tOp (rIxL K) (tFld K (tVar 0) "rows") (tFld K (tVar 3) "line")) (tCons (tVar 1) tNil))) (tDrop (tMeth a.Lines "lay" (sp_Lines_lay K a) [] E0 (tVar 0) (tCons (tVar 1) (tCons (tVar 5) tNil)))) { nx := fun x H' => Q V.non H', rt := Q }
        [some (.ref (g.adr .self)), some (.int t), some (.int m), some (.ref (g.adr (.card t))), some (.int ((S.rows.length : Nat) - 1)), some (.int (l : Nat))] H4 := fun hc => by
      rw [if_pos hc] at k2
      refine again l (S3.upC t fun c => { c with sh := R.s l }) H4 _ (tVar 5) _ hl' hrl w4 L4 e4 rd rfl (fun H' Q' L' q => ⟨_, rfl, q⟩) k2
    fail "go"
    refine r_kIf (fun hd2 => ?_) (fun hd2 => ?_)
    · have h2 : (c.line : Int) < (S.rows.length : Nat) - 1 := of_decide_eq_true hd2
      exact r_kTT (yes (.inl (by omega)))
    · have h2 : ¬ (c.line : Int) < (S.rows.length : Nat) - 1 := of_decide_eq_false hd2
      fail "go"
      refine r_kIf (fun hd3 => ?_) (fun hd3 => ?_)
      · exact yes (.inr (of_decide_eq_true hd3))
      · fail "go"
        have hc : ¬ (c.line < S.rows.length - 1 ∨ c.q - m = 0) := fun z => z.elim (fun z => h2 (by omega)) (of_decide_eq_false hd3)
        rw [if_neg hc] at k2
        exact k2 H4 L4
  · have h0 : ¬ c.sh - m = 0 := of_decide_eq_false hd
    rw [if_neg h0] at k2
    fail "go"
    refine r_kIf (fun hd2 => ?_) (fun hd2 => ?_)
    · have h2 : c.q - m = 0 := of_decide_eq_true hd2
      rw [if_pos h2] at k2
      refine again c.line S3 H3 _ (tFld K (tVar 3) "line") _ (A.at_ e) hrl w3 L3 e3 rd rfl (fun H' Q' L' q => ?_) k2
      have hcard := L'.lr.cd e3
      fail "go"
      exact q
    · have h2 : ¬ c.q - m = 0 := of_decide_eq_false hd2
      rw [if_neg h2] at k2
      fail "go"
      exact k2 H3 L3
def sp_Lines_run (K : PySem.W.Frag) (a : Adr) : Sp := sp2 fun x y H Q _ => ∃ g R S m, x = .ref (g.adr .self) ∧ y = .int m ∧ LA (LD a) (Foot g S) H g R S H ∧
  (S.first = none → ∀ H', LA (LD a) (Foot g S) H g R (S.run R m) H' → Q .non H') ∧
  ∀ t, S.first = some t → ∀ p H', LA (LD a) (Foot g S) H g R (S.run R m) H' → H' p = some (.tup [.int t, .int ((S.card t).line : Nat)]) → Q (.ref p) H'
theorem ok_Lines_run (T : Txt K mg a) : CalM P w K mg base CX0 3 a.Lines "run" ["self", "many"] (sp_Lines_run K a) := by
  obtain ⟨fd, F, b⟩ := T.f_Lines_run
  refine ⟨a.Lines_run, fd, F.ok sc_Lines_run (fun vs H Q E h => sp2_len h) (fun cdv A outer s H vs Q E hr h => ?_), T.m_Lines_run, b, T.c_Lines⟩
  refine ⟨_, (pss_cons (ps_fldaug (pv 0) (pv 1) in_add)
 (pss_cons (ps_set (i := 2) sc_Lines_run.nd rfl (Or.inl rfl) (q_meth0 (ok_Lines_first T) (hr.mono (by decide)) pass0 (pv 0)))
 (pss_cons (ps_if (pt_cmpR op_isN1 (pv 2) pe_non (nomark _))
 (pss_one (ps_ret pe_non))
 pss_nil)
 (pss_cons (ps_set (i := 3) sc_Lines_run.nd rfl (Or.inl rfl) (pe_fld (pe_dget (by exact hu_of hr) (pe_fld (pv 0) rfl) (pv 2) (fun _ _ => rfl)) rfl))
 (pss_cons (ps_expr (q_meth (ok_Lines_charge T) (hr.mono (by decide)) pass0 (pv 0) (pa_cons (pv 2) (pa_cons (pv 1) pa_nil))))
 (pss_one (ps_ret (pe_tup (pa_cons (pv 2) (pa_cons (pv 3) pa_nil)))))))))), ?_⟩
  try dsimp only [cxOf, Cx.nox, Cx.wish, List.map_cons, List.map_nil]
  obtain ⟨x, y, rfl, h⟩ := h
  rw [show L2.start N_Lines_run [x, y] = [some x, some y, none, none] from rfl]
  obtain ⟨g, R, S, m, rfl, rfl, A, k0, k1⟩ := h
  obtain ⟨la, ps, hR⟩ := A.rul
  have h4 := A.ok.four
  have hlen := A.len
  have hself := A.ls.lr.sf
  fail "go"
  refine ka_time A.ls fun H1 L1 => ?_
  have A1 : LA (LD a) (Foot g S) H g R { S with time := S.time + m } H1 := ⟨L1, ⟨la, ps, hR.frame L1.st.1⟩, A.ok, A.wf.setT⟩
  have hself := L1.lr.sf
  fail "go"
  refine sp1_mk ?_
  refine ⟨g, _, rfl, L1.lr, by show S.rows.length ≤ _; omega, fun H2 s2 => ?_⟩
  have A2 := A1.same s2
  have hf : ({ S with time := S.time + m } : LSt).first = S.first := rfl
  unfold LSt.run at k0 k1
  rw [hf] at k0 k1 ⊢
  cases e : S.first with
  | none =>
    rw [e] at k0
    fail "go"
    refine r_kT rfl ?_
    fail "go"
    exact k0 rfl H2 A2
  | some t =>
    rw [e] at k1
    rw [show bV (some t) = V.int t from rfl]
    fail "go"
    refine r_kF rfl ?_
    obtain ⟨c, j, hc, rd, hj, _⟩ := A.wf.first e
    have hc2 : look ({ S with time := S.time + m } : LSt).cards t = some c := hc
    have hself := A2.ls.lr.sf
    have hcards := A2.ls.lr.hcards
    have hget := card_get (g := g) hc2
    have hcard := A2.ls.lr.cd hc2
    fail "go"
    refine sp3_mk ?_
    refine ⟨g, R, _, t, c, m, rfl, rfl, rfl, A2.start, hc2, rd, fun H3 A3 => ?_⟩
    fail "go"
    refine r_kTup (by simp) fun p np => ?_
    refine k1 t rfl p _ ((A2.trans A3).new np) ?_
    rw [LSt.card_of hc]
    exact upd_same
def sp_Lines_boosted (K : PySem.W.Frag) (a : Adr) : Sp := sp1 fun x H Q _ => ∃ g R S, x = .ref (g.adr .self) ∧ LA (LD a) (Foot g S) H g R S H ∧
  ∀ g' H', g'.adr .self = g.adr .self → LA (LD a) (Foot g S) H g' R (S.boosted R) H' → Q .non H'
theorem ok_Lines_boosted (T : Txt K mg a) : CalM P w K mg base CX0 2 a.Lines "boosted" ["self"] (sp_Lines_boosted K a) := by
  obtain ⟨fd, F, b⟩ := T.f_Lines_boosted
  refine ⟨a.Lines_boosted, fd, F.ok sc_Lines_boosted (fun vs H Q E h => sp1_len h) (fun cdv A outer s H vs Q E hr h => ?_), T.m_Lines_boosted, b, T.c_Lines⟩
  refine ⟨_, (pss_cons (ps_setLc2 (i := 2) (own := [("row", 4), ("task", 1)]) (vs1 := [1]) (g := (gName 4)) (g1 := (gName 1)) (tt := tYes) (tt1 := tYes) (te := (tVar 1)) (wi1 := (iList K (tVar 4))) rfl sc_Lines_boosted.nd rfl rfl (sw_true rfl rfl rfl (by decide +kernel)) (pi_list (pe_slice sl_list (pe_fld (pv 0) rfl) (po_some pe_int) po_none)) (blkOk_by (N := N_Lines_boosted) (sc := (defScope s_Lines_boosted)) (by decide +kernel)) (by decide) (fun _ _ _ _ _ => (pg_name (i := 4) sc_Lines_boosted.nd rfl (Or.inl rfl))) (fun _ _ _ _ _ => pts_nil) (fun _ _ _ _ _ => (pi_list (pv 4))) (fun _ _ _ _ _ => (pg_name (i := 1) sc_Lines_boosted.nd rfl (Or.inl rfl))) (fun _ _ _ _ _ => pts_nil) (fun _ _ _ _ _ => (pv 1)))
 (pss_cons (ps_fld (pv 0) (pe_op op_cat (pe_lst (pa_cons (pe_ix ix_list (pe_fld (pv 0) rfl) pe_int (fun _ _ => rfl)) pa_nil)) (pe_lc (own := [("line", 5)]) (g := (gName 5)) (tt := tYes) (te := (tLst tNil)) rfl sc_Lines_boosted.nd (pi_tup (pe_slice sl_tupA (pe_ix ix_tup (pe_fld (pv 0) rfl) (q_cI T.g_LINES) (fun _ _ => rfl)) (po_some pe_int) po_none)) (blkOk_by (N := N_Lines_boosted) (sc := (defScope s_Lines_boosted)) (by decide +kernel)) (fun _ _ _ _ _ => (pg_name (i := 5) sc_Lines_boosted.nd rfl (Or.inl rfl))) (fun _ _ _ _ _ => pts_nil) (fun _ _ _ _ _ => (pe_lst pa_nil)))) rfl)
 (pss_cons (ps_lock (ps_for PassesOwn.never rfl (pi_values (pe_fld (pv 0) rfl)) (pg_name (i := 3) sc_Lines_boosted.nd rfl (Or.inl rfl))
 (pss_cons (ps_fld (pv 3) pe_int rfl)
 (pss_one (ps_fld (pv 3) (pe_ix ix_tup (pe_ix ix_tup (pe_ix ix_tup (pe_fld (pv 0) rfl) (q_cI T.g_LINES) (fun _ _ => rfl)) pe_int (fun _ _ => rfl)) pe_int (fun _ _ => rfl)) rfl)))))
 (pss_one (ps_for PassesOwn.never rfl (pi_list (pv 2)) (pg_name (i := 1) sc_Lines_boosted.nd rfl (Or.inl rfl))
 (pss_one (ps_expr (q_meth (ok_Lines_lay T) (hr.mono (by decide)) pass0 (pv 0) (pa_cons (pv 1) (pa_cons pe_int pa_nil)))))))))), ?_⟩
  try dsimp only [cxOf, Cx.nox, Cx.wish, List.map_cons, List.map_nil]
  obtain ⟨x, rfl, h⟩ := h
  rw [show L2.start N_Lines_boosted [x] = [some x, none, none, none, none, none] from rfl]
  obtain ⟨g, R, S, rfl, A, k⟩ := h
  obtain ⟨la, ps, hR⟩ := A.rul
  have hself := A.ls.lr.sf
  have hrws := A.ls.lr.hrws
  have hn := A.one
  have hlen := A.len
  have h4 := A.ok.four
  obtain ⟨t4, q4⟩ := T.g_LINES
  refine rd_step ?_
  refine rd_step ?_
  show tLc2 _ _ _ _ _ _ _ [4, 1] [1] _ _ _
  fail "go"
  refine r_slL (SqL.of hrws) fun p1 np1 => ?_
  rw [cut1, drop_refs hn]
  refine r_kIL (SqL.of upd_same) ?_
  have s1 : Same H (upd H p1 (.lst (((List.range (S.rows.length - 1)).map fun j => g.adr (.row (j + 1))).map V.ref))) := Same.upd np1
  have hsm : ∀ xs ∈ S.rows, xs.length ≤ 20 := fun xs hx => by
    obtain ⟨i, hi, rfl⟩ := List.mem_iff_getElem.mp hx
    have := A.wf.short i
    rw [LSt.row_some (List.getElem?_eq_getElem hi)] at this
    exact this
  have hz : (S.rows.drop 1).flatten.length < 100000 := by
    have := few A.wf.laterND fun x hx => by
      obtain ⟨l, _, hm⟩ := mem_later.mp hx
      obtain ⟨_, c, hc, _⟩ := (A.wf.mem l x).mp hm
      exact ⟨(A.wf.key x c hc).1, (A.wf.key x c hc).2.1⟩
    unfold LSt.later at this
    omega
  refine w_flat (rs := (List.range (S.rows.length - 1)).map fun j => g.adr (.row (j + 1))) (xss := S.rows.drop 1) upd_same (by simp) (fun i r xs h1 h2 => ?_) hz (by simp) (by simp) (by decide) ?_
  · rw [List.getElem?_map] at h1
    rw [List.getElem?_drop] at h2
    have hi : i < S.rows.length - 1 := by
      have := (List.getElem?_eq_some_iff.mp h2).1
      omega
    rw [List.getElem?_range hi] at h1
    cases Option.some.inj h1
    rw [Nat.add_comm] at h2
    exact s1 _ _ (A.ls.lr.hrow h2)
  intro D2 H2 nD2 s2 hD2
  have s2' : Same H H2 := s1.trans s2
  have hself := s2' _ _ hself
  have hrws := s2' _ _ hrws
  have hr := hR.same s2'
  have h1 := hr.rules
  have h2 := hr.lines
  have r0 : atI ((List.range S.rows.length).map fun i => V.ref (g.adr (.row i))) 0 = some (V.ref (g.adr (.row 0))) := row_get (l := 0) hn
  fail "go"
  refine r_kLst (by simp) fun l1 nl1 => ?_
  have s3 : Same H2 (upd H2 l1 (.lst [V.ref (g.adr (.row 0))])) := Same.upd nl1
  have hl1 : upd H2 l1 (.lst [V.ref (g.adr (.row 0))]) l1 = _ := upd_same
  have hself := s3 _ _ hself
  have h1 := s3 _ _ h1
  have h2 := s3 _ _ h2
  generalize upd H2 l1 (.lst [V.ref (g.adr (.row 0))]) = H3 at s3 hl1 hself h1 h2 ⊢
  have s3' : Same H H3 := s2'.trans s3
  fail "go"
  refine r_slA1 (SqT.of h2) (by rw [List.length_map, hR.len]; exact A.ok.one) fun p4 np4 => ?_
  refine r_kIT (SqT.of upd_same) ?_
  have w4 := walk_tup (K := K) (a := p4) (xs := (ps.map V.ref).drop 1)
  have lw : ((ps.map V.ref).drop 1).length = S.rows.length - 1 := by rw [List.length_drop, List.length_map, hR.len, hlen]
  rw [lw] at w4
  show kLc _ _ _ _ [5] _ _ _
  refine w_nils w4 (by omega) (by simp) (fun H' s => SqT.of (s _ _ upd_same)) (fun i H x H' y => y.1) ?_
  intro D5 qs H5 nD5 hD5 hqs N
  have s5 : Same H H5 := s3'.trans ((Same.upd np4).trans N.same)
  have hl1 := N.same _ _ (upd_old (o' := .tup ((ps.map V.ref).drop 1)) hl1 np4)
  refine r_cat hl1 hD5 (by simp; omega) fun y ny => ?_
  have hself6 := upd_old (o' := .lst ([V.ref (g.adr (.row 0))] ++ qs.map V.ref)) (s5 _ _ A.ls.lr.sf) ny
  have s6 : Same H (upd H5 y (.lst ([V.ref (g.adr (.row 0))] ++ qs.map V.ref))) := s5.trans (Same.upd ny)
  have ny0 : H y = none := by
    cases e : H y with
    | none => rfl
    | some o => rw [s5 y o e] at ny; cases ny
  have hy6 : upd H5 y (.lst ([V.ref (g.adr (.row 0))] ++ qs.map V.ref)) y = _ := upd_same
  have nq6 : ∀ q ∈ qs, H q = none ∧ q ≠ y ∧ upd H5 y (.lst ([V.ref (g.adr (.row 0))] ++ qs.map V.ref)) q = some (.lst []) := fun q hq => by
    obtain ⟨a1, a2, a3⟩ := N.each q hq
    have n1 : q ≠ y := fun z => by rw [z, ny] at a3; cases a3
    refine ⟨?_, n1, by rw [upd_ne n1]; exact a3⟩
    cases e : H q with
    | none => rfl
    | some o => rw [(s3'.trans (Same.upd np4)) q o e] at a1; cases a1
  have s56 : Same H5 (upd H5 y (.lst ([V.ref (g.adr (.row 0))] ++ qs.map V.ref))) := Same.upd ny
  generalize upd H5 y (.lst ([V.ref (g.adr (.row 0))] ++ qs.map V.ref)) = H6 at s6 hself6 hy6 nq6 s56 ⊢
  fail "go"
  refine r_kSetF hself6 T.c_Lines T.n_Lines_rows len_LF ?_
  rw [put_LF_rows (f := fun j => qs.getD j 0)]
  have fq : ∀ j, j < S.rows.length - 1 → qs.getD j 0 ∈ qs := fun j hj => by
    have : j < qs.length := by omega
    simp [List.getD, this]
  have nself : ∀ b, H b = none → b ≠ g.adr .self := fun b hb z => by rw [z, A.ls.lr.sf] at hb; cases hb
  have L7 : LS (LD a) (Foot g S) H (g.rows y fun j => qs.getD j 0) S.reRows (upd H6 (g.adr .self) (.ins a.Lines g.dx (LF (g.rows y fun j => qs.getD j 0) S.time))) := by
    refine ⟨A.ls.lr.reRows hn (A.ls.fresh ny0) (fun j hj => ?_) (fun i j hi hj e => ?_) (fun i o ho hi => ?_) upd_same ?_, ⟨fun b o hb nb => ?_, fun b xs hb => ?_⟩, fun b hb => ?_⟩
    · obtain ⟨a1, a2, a3⟩ := nq6 _ (fq j hj)
      exact ⟨A.ls.fresh a1, a2, by rw [upd_ne (nself _ a1)]; exact a3⟩
    · have hi' : i < qs.length := by omega
      have hj' : j < qs.length := by omega
      have e' : qs[i] = qs[j] := by simpa [List.getD, hi', hj'] using e
      exact (List.getElem_inj N.nd).mp e'
    · rw [upd_ne fun z => hi (A.ls.lr.inj i .self (cont_live ho) trivial z)]
      exact s6 _ _ (A.ls.lr.there i o ho)
    · rw [upd_ne (nself _ ny0), hy6, range_getD hqs]; rfl
    · rw [upd_ne fun z => nb ⟨.self, trivial, z.symm⟩]; exact s6 b o hb
    · rw [upd_ne fun z => by rw [z, A.ls.lr.sf] at hb; cases hb]; exact s6 b _ hb
    · rcases foot_reRows hn hb with z | z | ⟨j, hj, z⟩
      · exact .inl z
      · exact .inr (z ▸ ny0)
      · exact .inr (z ▸ (nq6 _ (fq j hj)).1)
  have nD2' : H D2 = none := by
    cases e : H D2 with
    | none => rfl
    | some o => rw [s1 D2 o e] at nD2; cases nD2
  have hD5' : H5 D2 = some (.lst (S.later.map V.int)) := N.same _ _ (upd_old (s3 _ _ hD2) np4)
  have hD6 : H6 D2 = some (.lst (S.later.map V.int)) := s56 _ _ hD5'
  have hD7 : upd H6 (g.adr .self) (.ins a.Lines g.dx (LF (g.rows y fun j => qs.getD j 0) S.time)) D2 = some (.lst (S.later.map V.int)) := by rw [upd_ne (nself _ nD2')]; exact hD6
  have apart : ¬ Foot (g.rows y fun j => qs.getD j 0) S.reRows D2 := fun hb => by
    rcases foot_reRows hn hb with z | z | ⟨j, hj, z⟩
    · exact A.ls.fresh nD2' z
    · rw [← z, hD5'] at ny; cases ny
    · have := (N.each _ (fq j hj)).1
      rw [← z, upd_old (s3 _ _ hD2) np4] at this; cases this
  have hs0 : (g.rows y fun j => qs.getD j 0).adr .self = g.adr .self := rfl
  have hra : (g.rows y fun j => qs.getD j 0).ra = g.ra := rfl
  have hR7 := hR.frame L7.st.1
  generalize upd H6 (g.adr .self) (.ins a.Lines g.dx (LF (g.rows y fun j => qs.getD j 0) S.time)) = H7 at L7 hD7 hR7 ⊢
  generalize (g.rows y fun j => qs.getD j 0) = g' at L7 apart hs0 hra ⊢
  rw [← hs0]
  rw [← hra] at hR7
  have B := L7.lr.start
  refine rd_step ?_
  refine ⟨g'.adr .cards, _, L7.lr.hcards, trivial, fun od => ?_⟩
  have F0 := LF_.start (od := od) B
  have hself := F0.sf
  fail "go"
  refine r_kIVals F0.frz ?_
  refine w_for walk_values (fun i σ H' => ∃ v3, σ = [some (.ref (g'.adr .self)), none, some (.ref D2), v3, none, none] ∧ LF_ (LD a) (Foot g' S.reRows) H7 g' (((S.reRows.cards.map Prod.fst).take i).foldl (fun S t => S.upC t fun c => { c with line := 0, sh := R.s 0 }) S.reRows) od (refs (fun t => g'.adr (.card t)) S.reRows.cards) H') ⟨none, rfl, F0⟩ (fun i σ H' hi q => by obtain ⟨_, _, F⟩ := q; exact F.frz) ?_ ?_
  · rintro i x σ H8 H9 hi ⟨v3, rfl, F⟩ ⟨rfl, kk, hx⟩
    obtain ⟨t, ht, rfl⟩ := refs_at hx
    have hk : t ∈ (((S.reRows.cards.map Prod.fst).take i).foldl (fun S t => S.upC t fun c => { c with line := 0, sh := R.s 0 }) S.reRows).cards.map Prod.fst := by
      rw [keys_ups]
      exact List.mem_of_getElem? ht
    obtain ⟨c, hc⟩ := look_key.mpr hk
    have estep : ((S.reRows.cards.map Prod.fst).take (i + 1)).foldl (fun S t => S.upC t fun c => { c with line := 0, sh := R.s 0 }) S.reRows = (((S.reRows.cards.map Prod.fst).take i).foldl (fun S t => S.upC t fun c => { c with line := 0, sh := R.s 0 }) S.reRows).upC t fun c => { c with line := 0, sh := R.s 0 } := by
      rw [List.take_add_one, ht, List.foldl_append]; rfl
    rw [estep]
    generalize ((S.reRows.cards.map Prod.fst).take i).foldl (fun S t => S.upC t fun c => { c with line := 0, sh := R.s 0 }) S.reRows = S8 at F hc ⊢
    have hcard := F.cd hc
    fail "go"
    refine kf_line (l := 0) F hc T.c_Card T.n_Card_line fun H10 F1 => ?_
    have hc1 : look (S8.upC t fun c => { c with line := 0 }).cards t = some { c with line := 0 } := by rw [look_upC, if_pos rfl, hc]; rfl
    have hself := F1.sf
    have h1 := F1.tup hR7.rules
    have h2 := F1.tup hR7.lines
    obtain ⟨pl, e3, hpl0⟩ := hR7.line (l := 0) A.ok.one
    have hpl := F1.tup hpl0
    fail "go"
    refine kf_share F1 hc1 T.c_Card T.n_Card_share fun H11 F2 => ?_
    rw [LSt.upC_upC] at F2
    exact ⟨_, rfl, F2⟩
  · rintro σ H8 ⟨v3, rfl, F⟩
    refine ⟨F.frz, ?_⟩
    have L9 := F.ls
    rw [show (refs (fun t => g'.adr (.card t)) S.reRows.cards).length = (S.reRows.cards.map Prod.fst).length by unfold refs; rw [List.length_map, List.length_map], List.take_length, ups_all (f := fun c => { c with line := 0, sh := R.s 0 }) (fun c => rfl)] at L9
    have ecl : ({ S.reRows with cards := S.reRows.cards.map fun p => (p.1, { p.2 with line := 0, sh := R.s 0 }) } : LSt) = S.clear R := rfl
    rw [ecl] at L9
    generalize upd H8 (g'.adr .cards) (.dK (refs (fun t => g'.adr (.card t)) S.reRows.cards)) = H9 at L9 ⊢
    have hD9 : H9 D2 = some (.lst (S.later.map V.int)) := L9.st.1.1 _ _ hD7 apart
    fail "go"
    have w9 := walk_list (K := K) (a := D2) (xs := S.later.map V.int)
    rw [List.length_map] at w9
    refine w_for w9 (fun i σ H' => ∃ v1 v3, σ = [some (.ref (g'.adr .self)), v1, some (.ref D2), v3, none, none] ∧ LS (LD a) (Foot g' S.reRows) H7 g' ((S.later.take i).foldl (fun S t => LSt.lay R S t 0) (S.clear R)) H' ∧
        Wf R.lines.length (S.later.drop i) ((S.later.take i).foldl (fun S t => LSt.lay R S t 0) (S.clear R)) ∧ ∀ t ∈ S.later.drop i, ∃ c, look ((S.later.take i).foldl (fun S t => LSt.lay R S t 0) (S.clear R)).cards t = some c ∧ c.rdy = true)
      ⟨none, v3, rfl, L9, A.wf.clear A.ok.one, fun t ht => ?_⟩ (fun i σ H' hi q => by obtain ⟨_, _, _, L, _⟩ := q; exact SqL.of (L.st.1.1 _ _ hD7 apart)) ?_ ?_
    · obtain ⟨l, _, hm⟩ := mem_later.mp ht
      obtain ⟨_, c, e, rd, _⟩ := (A.wf.mem l t).mp hm
      exact ⟨{ c with line := 0, sh := R.s 0 }, by rw [show look ((S.later.take 0).foldl (fun S t => LSt.lay R S t 0) (S.clear R)).cards t = _ from look_map (f := fun c => { c with line := 0, sh := R.s 0 }), e]; rfl, rd⟩
    · rintro i x σ H10 H11 hi ⟨v1, v3, rfl, L, W, ex⟩ ⟨rfl, hx⟩
      rw [List.getElem?_map] at hx
      have et : S.later[i]? = some S.later[i] := List.getElem?_eq_getElem hi
      rw [et] at hx
      cases Option.some.inj hx
      have edrop : S.later.drop i = S.later[i] :: S.later.drop (i + 1) := List.drop_eq_getElem_cons hi
      have estep : (S.later.take (i + 1)).foldl (fun S t => LSt.lay R S t 0) (S.clear R) = LSt.lay R ((S.later.take i).foldl (fun S t => LSt.lay R S t 0) (S.clear R)) S.later[i] 0 := by
        rw [List.take_add_one, et, List.foldl_append]; rfl
      rw [edrop] at W ex
      have nd : S.later[i] ∉ S.later.drop (i + 1) := by
        have := A.wf.laterND
        rw [← List.take_append_drop i S.later, edrop] at this
        exact (List.nodup_cons.mp (List.nodup_append.mp this).2.1).1
      rw [estep]
      obtain ⟨c, hc, rd⟩ := ex _ List.mem_cons_self
      generalize (S.later.take i).foldl (fun S t => LSt.lay R S t 0) (S.clear R) = S10 at L W ex hc ⊢
      generalize S.later[i] = t at W ex hc nd ⊢
      have hself := L.lr.sf
      fail "go"
      refine sp3_mk ?_
      refine ⟨g', S10, R, t, c, 0, rfl, rfl, rfl, L.lr, ⟨la, ps, hR7.frame L.st.1⟩, hc, ?_, W.rl, ?_, fun H12 L12 => ?_⟩
      · rw [W.rl]; exact A.ok.one
      · have := W.short 0; omega
      · refine ⟨_, _, rfl, L.trans L12, W.lay hc rd A.ok.one nd, fun u hu => ?_⟩
        have ne : u ≠ t := fun z => nd (z ▸ hu)
        rw [look_lay, if_neg ne]
        exact ex u (List.mem_cons_of_mem _ hu)
    · rintro σ H10 ⟨v1, v3, rfl, L, W, _⟩
      rw [List.take_length] at L W
      rw [List.drop_length] at W
      exact k g' H10 hs0 ⟨L7.trans L, ⟨la, ps, hR7.frame L.st.1⟩, A.ok, W⟩
def sp_Lines_boost_now (K : PySem.W.Frag) (a : Adr) : Sp := sp1 fun x H Q _ => ∃ g R S, x = .ref (g.adr .self) ∧ LA (LD a) (Foot g S) H g R S H ∧
  ∀ g' H', g'.adr .self = g.adr .self → LA (LD a) (Foot g S) H g' R (S.boostNow R) H' → Q .non H'
theorem ok_Lines_boost_now (T : Txt K mg a) : CalM P w K mg base CX0 3 a.Lines "boost_now" ["self"] (sp_Lines_boost_now K a) := by
  obtain ⟨fd, F, b⟩ := T.f_Lines_boost_now
  refine ⟨a.Lines_boost_now, fd, F.ok sc_Lines_boost_now (fun vs H Q E h => sp1_len h) (fun cdv A outer s H vs Q E hr h => ?_), T.m_Lines_boost_now, b, T.c_Lines⟩
  refine ⟨_, (pss_cons (ps_set (i := 1) sc_Lines_boost_now.nd rfl (Or.inl rfl) (pe_ix ix_tup (pe_fld (pv 0) rfl) (q_cI T.g_BOOST) (fun _ _ => rfl)))
 (pss_one (ps_if (PW.pt (pw_and (pt_cmpR op_notN1 (pv 1) pe_non (nomark _)) (pw_and (pt_cmpR qo_gt (pe_fld (pv 0) rfl) pe_int (nomark _)) (pw_and1 (pt_cmpR op_eq (pe_op qo_mod (pe_fld (pv 0) rfl) (pv 1)) pe_int (nomark _))))))
 (pss_one (ps_expr (q_meth0 (ok_Lines_boosted T) (hr.mono (by decide)) pass0 (pv 0))))
 pss_nil))), ?_⟩
  try dsimp only [cxOf, Cx.nox, Cx.wish, List.map_cons, List.map_nil]
  obtain ⟨x, rfl, h⟩ := h
  rw [show L2.start N_Lines_boost_now [x] = [some x, none] from rfl]
  obtain ⟨g, R, S, rfl, A, k⟩ := h
  obtain ⟨la, ps, hR⟩ := A.rul
  have hself := A.ls.lr.sf
  have h1 := hR.rules
  obtain ⟨t4, q4⟩ := T.g_BOOST
  unfold LSt.boostNow LSt.due at k
  fail "go"
  cases e : R.boost with
  | none =>
    rw [e] at k
    refine r_kF rfl ?_
    fail "go"
    exact k g H rfl A
  | some b =>
    rw [e] at k
    refine r_kT rfl ?_
    rw [show bV (some b) = V.int b from rfl]
    fail "go"
    refine r_kIf (fun h0 => ?_) (fun h0 => ?_)
    · have k : ∀ g' H', g'.adr .self = g.adr .self → LA (LD a) (Foot g S) H g' R (if (decide (0 < S.time) && decide (S.time % b = 0)) = true then S.boosted R else S) H' → Q .non H' := k
      rw [h0, Bool.true_and] at k
      fail "go"
      refine r_mod (by have := (A.ok.boosts b e).1; omega) ?_
      fail "go"
      refine r_kIf (fun h2 => ?_) (fun h2 => ?_)
      · rw [h2] at k
        fail "go"
        refine sp1_mk ?_
        refine ⟨g, R, S, rfl, A, fun g' H' e' A' => ?_⟩
        exact k g' H' e' A'
      · rw [h2] at k
        fail "go"
        exact k g H rfl A
    · have k : ∀ g' H', g'.adr .self = g.adr .self → LA (LD a) (Foot g S) H g' R (if (decide (0 < S.time) && decide (S.time % b = 0)) = true then S.boosted R else S) H' → Q .non H' := k
      rw [h0, Bool.false_and] at k
      fail "go"
      exact k g H rfl A
theorem Wf.boostNow {n : Nat} {S : LSt} {R : Rul} (w : Wf n [] S) (hn : 0 < n) : Wf n [] (S.boostNow R) := by
  unfold LSt.boostNow
  by_cases e : S.due R = true
  · rw [if_pos e]; exact w.boosted hn
  · rw [if_neg e]; exact w
def sp_Lines_tick (K : PySem.W.Frag) (a : Adr) : Sp := sp1 fun x H Q _ => ∃ g R S, x = .ref (g.adr .self) ∧ LA (LD a) (Foot g S) H g R S H ∧
  ∀ g' H', g'.adr .self = g.adr .self → LA (LD a) (Foot g S) H g' R (S.tick R) H' → Q (bV (S.boostNow R).first) H'
theorem ok_Lines_tick (T : Txt K mg a) : CalM P w K mg base CX0 4 a.Lines "tick" ["self"] (sp_Lines_tick K a) := by
  obtain ⟨fd, F, b⟩ := T.f_Lines_tick
  refine ⟨a.Lines_tick, fd, F.ok sc_Lines_tick (fun vs H Q E h => sp1_len h) (fun cdv A outer s H vs Q E hr h => ?_), T.m_Lines_tick, b, T.c_Lines⟩
  refine ⟨_, (pss_cons (ps_expr (q_meth0 (ok_Lines_boost_now T) (hr.mono (by decide)) pass0 (pv 0)))
 (pss_cons (ps_set (i := 1) sc_Lines_tick.nd rfl (Or.inl rfl) (q_meth (ok_Lines_run T) (hr.mono (by decide)) pass0 (pv 0) (pa_cons pe_int pa_nil)))
 (pss_one (ps_ret (pe_ifExp (pt_cmpR op_isN1 (pv 1) pe_non (nomark _)) pe_non (pe_ix ix_tup (pv 1) pe_int (fun _ _ => rfl))))))), ?_⟩
  try dsimp only [cxOf, Cx.nox, Cx.wish, List.map_cons, List.map_nil]
  obtain ⟨x, rfl, h⟩ := h
  rw [show L2.start N_Lines_tick [x] = [some x, none] from rfl]
  obtain ⟨g, R, S, rfl, A, k⟩ := h
  have hself := A.ls.lr.sf
  fail "go"
  refine sp1_mk ?_
  refine ⟨g, R, S, rfl, A, fun g' H1 e1 A1 => ?_⟩
  rw [← e1]
  have hself := A1.ls.lr.sf
  fail "go"
  refine sp2_mk ?_
  refine ⟨g', R, _, 1, rfl, rfl, A1.start, fun e H2 A2 => ?_, fun t e p H2 A2 hp => ?_⟩
  · fail "go"
    refine r_kT rfl ?_
    fail "go"
    have := k g' H2 e1 (A1.trans A2)
    rw [e] at this
    exact this
  · fail "go"
    refine r_kF rfl ?_
    have hp2 := SqT.of (K := K) hp
    fail "go"
    have := k g' H2 e1 (A1.trans A2)
    rw [e] at this
    exact this
end
end Qn

namespace Qn
open PySem L2
local macro_rules | `(tactic| fail "ne") => `(tactic| first | assumption | (apply Ne.symm; assumption) | (apply ne_of_none; assumption; assumption) | (apply Ne.symm; apply ne_of_none; assumption; assumption) | (apply ne_of; assumption; assumption; (intro z; cases z)))
local macro_rules | `(tactic| fail "hp") => `(tactic| with_reducible first | assumption | apply upd_same | (apply upd_old; rotate_left; assumption; fail "hp") | (apply upd_oth; rotate_left; fail "ne"; fail "hp"))
local macro_rules | `(tactic| fail "sl") => `(tactic| with_reducible first | assumption | (apply SqL.of; fail "hp"))
local macro_rules | `(tactic| fail "st") => `(tactic| with_reducible first | assumption | (apply SqT.of; fail "hp"))
local macro_rules | `(tactic| fail "tx") => `(tactic| with_reducible first | assumption | (apply Txt.c_Card; assumption) | (apply Txt.n_Card_line; assumption) | (apply Txt.n_Card_quantum; assumption) | (apply Txt.n_Card_share; assumption) | (apply Txt.n_Card_is_ready; assumption) | (apply Txt.n_Card_spent; assumption) | (apply Txt.c_Lines; assumption) | (apply Txt.n_Lines_rules; assumption) | (apply Txt.n_Lines_cards; assumption) | (apply Txt.n_Lines_rows; assumption) | (apply Txt.n_Lines_time; assumption))
local macro_rules | `(tactic| fail "lk") => `(tactic| with_reducible first | assumption | apply lk_LF_rules | apply lk_LF_cards | apply lk_LF_rows | apply lk_LF_time | apply lk_CF_line | apply lk_CF_quantum | apply lk_CF_share | apply lk_CF_is_ready | apply lk_CF_spent | (apply lk_LF_no; decide +kernel; decide +kernel; decide +kernel; decide +kernel))
local macro_rules | `(tactic| fail "at") => `(tactic| with_reducible first | assumption | apply mc_0 | apply mc_1 | apply mc_2 | apply mc_3 | apply mc_4 | apply at_0 | apply at_1 | apply at_2 | apply at_3 | apply at_4 | (apply atI_nat; assumption) | (apply at_z; assumption))
local macro_rules | `(tactic| fail "go") => `(tactic| repeat (first
  | apply rd_step
  | with_reducible (first
    | (apply r_kFld; fail "hp"; fail "tx"; fail "tx"; fail "lk")
    | (apply r_ixL; fail "sl"; fail "at") | (apply r_ixT; fail "st"; fail "at")
    | (apply r_kMeth; fail "hp"; fail "lk") | (apply r_kBML; fail "sl")
    | (apply r_lenL; fail "sl") | (apply r_lenT; fail "st") | (apply r_lenD; fail "hp")
    | (apply r_kDGetI; fail "hp"; (first | assumption | rfl)) | (apply r_kDGetS; fail "hp"; (first | assumption | apply mv_rules | apply mv_rows | apply mv_cards | apply mv_now)) | (apply r_kDInI; fail "hp") | (apply r_kDNotInI; fail "hp")
    | (apply r_kAugF; fail "hp"; fail "tx"; fail "tx"; fail "lk")
    | (apply r_isi_tuple_tuple; fail "st") | (apply r_isi_list_tuple; fail "sl") | (apply r_isi_list_list; fail "sl") | (apply r_isi_tuple_list; fail "st")
    | (apply r_kUnT; fail "st"; with_unfolding_all rfl) | (apply r_kIL; fail "sl") | (apply r_kIT; fail "st") | (apply r_kIE; fail "st") )))
local macro_rules | `(tactic| fail "eg") => `(tactic| repeat (first
  | apply stp
  | (refine e_rul0 (fun _ => ?_))

  | (refine e_tup0 (fun _ => ?_)) ))
local macro_rules | `(tactic| fail "egs") => `(tactic| (try (with_reducible refine e_seq ?_)) <;> repeat (first
  | apply stp
  | (with_reducible refine e_seq ?_)
  | (refine e_rul0 (fun _ => ?_))

  | (refine e_tup0 (fun _ => ?_)) ))
def LSt.begin (R : Rul) : LSt := ⟨[], List.replicate R.lines.length [], 0⟩
theorem Wf.begin (R : Rul) : Wf R.lines.length [] (LSt.begin R) := by
  have row : ∀ l, (LSt.begin R).row l = [] := fun l => by
    unfold LSt.begin LSt.row
    rw [List.getD_eq_getElem?_getD, List.getElem?_replicate]
    by_cases h : l < R.lines.length
    · rw [if_pos h]; rfl
    · rw [if_neg h]; rfl
  refine ⟨List.length_replicate .., fun t c e => (by cases e), List.nodup_nil, fun l t => ?_, fun l => by rw [row]; exact List.nodup_nil⟩
  rw [row]
  constructor
  · intro h; cases h
  · rintro ⟨_, c, e, _⟩; cases e
theorem len2 {f1 f2 : Str} {v1 v2 : V} : (putF f2 v2 (putF f1 v1 [])).length < 1000 := by
  have h1 := len_put (f := f1) (v := v1) (fs := [])
  have h2 := len_put (f := f2) (v := v2) (fs := putF f1 v1 [])
  have h0 : ([] : List (Str × V)).length = 0 := rfl
  omega
theorem len1 {f1 : Str} {v1 : V} : (putF f1 v1 []).length < 1000 := by
  have h1 := len_put (f := f1) (v := v1) (fs := [])
  have h0 : ([] : List (Str × V)).length = 0 := rfl
  omega
theorem len3 {f1 f2 f3 : Str} {v1 v2 v3 : V} : (putF f3 v3 (putF f2 v2 (putF f1 v1 []))).length < 1000 := by
  have h1 := len_put (f := f1) (v := v1) (fs := [])
  have h2 := len_put (f := f2) (v := v2) (fs := putF f1 v1 [])
  have h3 := len_put (f := f3) (v := v3) (fs := putF f2 v2 (putF f1 v1 []))
  have h0 : ([] : List (Str × V)).length = 0 := rfl
  omega
def Geo.new (p dx cs rw : Addr) (f : Nat → Addr) (ra : Addr) : Geo := ⟨fun
  | .self => p
  | .cards => cs
  | .rws => rw
  | .row i => f i
  | _ => 0, dx, fun _ => 0, ra⟩
/-- new lines in a heap -/
theorem LR.begin {kd : Kd} {R : Rul} {p dx cs rw ra : Addr} {f : Nat → Addr} {H : Hp} (h1 : H p = some (kd.self (Geo.new p dx cs rw f ra) 0)) (h2 : H cs = some (.dK [])) (h3 : H rw = some (.lst ((List.range R.lines.length).map fun i => V.ref (f i))))
    (h4 : ∀ i, i < R.lines.length → H (f i) = some (.lst [])) (n1 : p ≠ cs) (n2 : p ≠ rw) (n3 : cs ≠ rw) (n4 : ∀ i, i < R.lines.length → f i ≠ p ∧ f i ≠ cs ∧ f i ≠ rw) (inj : ∀ i j, i < R.lines.length → j < R.lines.length → f i = f j → i = j) :
    LR kd (Geo.new p dx cs rw f ra) (LSt.begin R) H := by
  have len : (LSt.begin R).rows.length = R.lines.length := List.length_replicate ..
  constructor
  · intro i o ho
    cases i with
    | self => exact h1.trans ho
    | cards => exact h2.trans ho
    | rws =>
      refine h3.trans ?_
      rw [← ho]
      show _ = some (HO.lst ((List.range (LSt.begin R).rows.length).map fun i => V.ref (f i)))
      rw [len]
    | row j =>
      have ho' : ((LSt.begin R).rows[j]?).map (fun xs => HO.lst (xs.map V.int)) = some o := ho
      have hj : j < R.lines.length := by
        apply Classical.byContradiction
        intro z
        rw [List.getElem?_eq_none (by omega)] at ho'; cases ho'
      have : (LSt.begin R).rows[j]? = some [] := by
        show (List.replicate R.lines.length ([] : List Int))[j]? = some []
        rw [List.getElem?_replicate, if_pos hj]
      rw [this] at ho'
      exact (h4 j hj).trans ho'
    | card u => cases ho
    | spt u => cases ho
  · intro i j hi hj q
    cases i with
    | card u => exact absurd rfl hi
    | spt u => exact absurd rfl hi
    | self =>
      cases j with
      | card u => exact absurd rfl hj
      | spt u => exact absurd rfl hj
      | self => rfl
      | cards => exact absurd q n1
      | rws => exact absurd q n2
      | row b => exact absurd (Eq.symm q) (n4 b (by have hj' : b < (LSt.begin R).rows.length := hj; omega)).1
    | cards =>
      cases j with
      | card u => exact absurd rfl hj
      | spt u => exact absurd rfl hj
      | self => exact absurd (Eq.symm q) n1
      | cards => rfl
      | rws => exact absurd q n3
      | row b => exact absurd (Eq.symm q) (n4 b (by have hj' : b < (LSt.begin R).rows.length := hj; omega)).2.1
    | rws =>
      cases j with
      | card u => exact absurd rfl hj
      | spt u => exact absurd rfl hj
      | self => exact absurd (Eq.symm q) n2
      | cards => exact absurd (Eq.symm q) n3
      | rws => rfl
      | row b => exact absurd (Eq.symm q) (n4 b (by have hj' : b < (LSt.begin R).rows.length := hj; omega)).2.2
    | row b =>
      have hb : b < R.lines.length := by have hi' : b < (LSt.begin R).rows.length := hi; omega
      cases j with
      | card u => exact absurd rfl hj
      | spt u => exact absurd rfl hj
      | self => exact absurd q (n4 b hb).1
      | cards => exact absurd q (n4 b hb).2.1
      | rws => exact absurd q (n4 b hb).2.2
      | row d => rw [inj b d hb (by have hj' : d < (LSt.begin R).rows.length := hj; omega) q]
theorem foot_begin {R : Rul} {p dx cs rw ra b : Addr} {f : Nat → Addr} (h : Foot (Geo.new p dx cs rw f ra) (LSt.begin R) b) : b = p ∨ b = cs ∨ b = rw ∨ ∃ i, i < R.lines.length ∧ b = f i := by
  have len : (LSt.begin R).rows.length = R.lines.length := List.length_replicate ..
  obtain ⟨i, hi, rfl⟩ := h
  cases i with
  | self => exact .inl rfl
  | cards => exact .inr (.inl rfl)
  | rws => exact .inr (.inr (.inl rfl))
  | row j => exact .inr (.inr (.inr ⟨j, by have hi' : j < (LSt.begin R).rows.length := hi; omega, rfl⟩))
  | card u => exact absurd rfl hi
  | spt u => exact absurd rfl hi
section
variable {P : Program} {w : World} {K : PySem.W.Frag} {mg : Str → Option Value} {base : Heap} {a : Adr}
def sp_Lines__init (K : PySem.W.Frag) (a : Adr) : Sp := sp2 fun x y H Q _ => ∃ p dx ra R la ps, x = .ref p ∧ y = .ref ra ∧ H p = some (.ins a.Lines dx []) ∧ RulAt H ra R la ps ∧ R.Ok ∧
  ∀ g H', g.adr .self = p → g.ra = ra → LR (LD a) g (LSt.begin R) H' → (∀ b o, H b = some o → b ≠ p → H' b = some o) → (∀ b, Foot g (LSt.begin R) b → b = p ∨ H b = none) → Q .non H'
theorem ok_Lines__init (T : Txt K mg a) : CalC P w K mg base CX0 4 a.Lines "Lines" ["self", "rules"] (sp_Lines__init K a) := by
  obtain ⟨fd, F, b⟩ := T.f_Lines__init
  refine ⟨a.Lines__init, fd, F.ok sc_Lines__init (fun vs H Q E h => sp2_len h) (fun cdv A outer s H vs Q E hr h => ?_), T.k_Lines, T.g_Lines, b⟩
  refine ⟨_, (pss_cons (ps_expr (q_call (ok_need_rules T) (hr.mono (by decide)) pass0 (pa_cons (pv 1) pa_nil)))
 (pss_cons (ps_fld (pv 0) (pv 1) rfl)
 (pss_cons (ps_fld (pv 0) pe_dnewK rfl)
 (pss_cons (ps_fld (pv 0) (pe_lc (own := [("line", 2)]) (g := (gName 2)) (tt := tYes) (te := (tLst tNil)) rfl sc_Lines__init.nd (pi_tup (pe_ix ix_tup (pv 1) (q_cI T.g_LINES) (fun _ _ => rfl))) (blkOk_by (N := N_Lines__init) (sc := (defScope s_Lines__init)) (by decide +kernel)) (fun _ _ _ _ _ => (pg_name (i := 2) sc_Lines__init.nd rfl (Or.inl rfl))) (fun _ _ _ _ _ => pts_nil) (fun _ _ _ _ _ => (pe_lst pa_nil))) rfl)
 (pss_one (ps_fld (pv 0) pe_int rfl)))))), ?_⟩
  try dsimp only [cxOf, Cx.nox, Cx.wish, List.map_cons, List.map_nil]
  obtain ⟨x, y, rfl, h⟩ := h
  rw [show L2.start N_Lines__init [x, y] = [some x, some y, none] from rfl]
  obtain ⟨p, dx, ra, R, la, ps, rfl, rfl, hp, hR, ok, k⟩ := h
  have h4 := ok.four
  obtain ⟨t4, q4⟩ := T.g_LINES
  fail "go"
  refine sp1_mk ?_
  refine ⟨ra, R, la, ps, rfl, hR, ok, fun H1 s1 => ?_⟩
  have hp1 := s1 _ _ hp
  fail "go"
  refine r_kSetF hp1 T.c_Lines T.n_Lines_rules (by decide) ?_
  fail "go"
  refine r_dnew fun cs ncs => ?_
  have n1 : p ≠ cs := fun z => by rw [← z, upd_same] at ncs; cases ncs
  fail "go"
  refine r_kSetF (C := a.Lines) (dx := dx) (by rw [upd_ne n1]; exact upd_same) T.c_Lines T.n_Lines_cards len1 ?_
  have nrp : ∀ b xs, H b = some (.tup xs) → b ≠ p := fun b xs hb z => by rw [z, hp] at hb; cases hb
  have nrc : ∀ b xs, H1 b = some (.tup xs) → b ≠ cs := fun b xs hb z => by
    rw [z] at hb
    rw [upd_ne (Ne.symm n1), hb] at ncs; cases ncs
  have h1 : upd (upd (upd H1 p (.ins a.Lines dx (putF "rules" (.ref ra) []))) cs (.dK [])) p (.ins a.Lines dx (putF "cards" (.ref cs) (putF "rules" (.ref ra) []))) ra = some (.tup [.ref la, bV R.boost, .str (chS R.kept)]) := by
    rw [upd_ne (nrp _ _ hR.rules), upd_ne (nrc _ _ (s1 _ _ hR.rules)), upd_ne (nrp _ _ hR.rules)]; exact s1 _ _ hR.rules
  have h2 : upd (upd (upd H1 p (.ins a.Lines dx (putF "rules" (.ref ra) []))) cs (.dK [])) p (.ins a.Lines dx (putF "cards" (.ref cs) (putF "rules" (.ref ra) []))) la = some (.tup (ps.map V.ref)) := by
    rw [upd_ne (nrp _ _ hR.lines), upd_ne (nrc _ _ (s1 _ _ hR.lines)), upd_ne (nrp _ _ hR.lines)]; exact s1 _ _ hR.lines
  have hp2 : upd (upd (upd H1 p (.ins a.Lines dx (putF "rules" (.ref ra) []))) cs (.dK [])) p (.ins a.Lines dx (putF "cards" (.ref cs) (putF "rules" (.ref ra) []))) p = _ := upd_same
  have hc2 : upd (upd (upd H1 p (.ins a.Lines dx (putF "rules" (.ref ra) []))) cs (.dK [])) p (.ins a.Lines dx (putF "cards" (.ref cs) (putF "rules" (.ref ra) []))) cs = some (.dK []) := by
    rw [upd_ne (Ne.symm n1)]; exact upd_same
  have ncs1 : H1 cs = none := by rw [upd_ne (Ne.symm n1)] at ncs; exact ncs
  have k2 : ∀ b o, H1 b = some o → b ≠ p → upd (upd (upd H1 p (.ins a.Lines dx (putF "rules" (.ref ra) []))) cs (.dK [])) p (.ins a.Lines dx (putF "cards" (.ref cs) (putF "rules" (.ref ra) []))) b = some o := fun b o hb nb => by
    rw [upd_ne nb, upd_ne (fun z => by rw [z, ncs1] at hb; cases hb), upd_ne nb]; exact hb
  generalize upd (upd (upd H1 p (.ins a.Lines dx (putF "rules" (.ref ra) []))) cs (.dK [])) p (.ins a.Lines dx (putF "cards" (.ref cs) (putF "rules" (.ref ra) []))) = H2 at h1 h2 hp2 hc2 k2 ⊢
  fail "go"
  have w4 := walk_tup (K := K) (a := la) (xs := ps.map V.ref)
  rw [List.length_map, hR.len] at w4
  show kLc _ _ _ _ [2] _ _ _
  refine w_nils w4 (by omega) (by simp) (fun H' s => SqT.of (s _ _ h2)) (fun i H x H' y => y.1) ?_
  intro D qs H3 nD hD hqs N
  have hp3 := N.same _ _ hp2
  have hc3 := N.same _ _ hc2
  fail "go"
  refine r_kSetF hp3 T.c_Lines T.n_Lines_rows len2 ?_
  fail "go"
  refine r_kSetF upd_same T.c_Lines T.n_Lines_time len3 ?_
  rw [upd_upd]
  have nDp : D ≠ p := fun z => by rw [z, hp2] at nD; cases nD
  have nDc : cs ≠ D := fun z => by rw [← z, hc2] at nD; cases nD
  have fq : ∀ j, j < R.lines.length → qs.getD j 0 ∈ qs := fun j hj => by
    have : j < qs.length := by omega
    simp [List.getD, this]
  have nq : ∀ q ∈ qs, q ≠ p ∧ q ≠ cs ∧ q ≠ D := fun q hq => by
    obtain ⟨a1, a2, _⟩ := N.each q hq
    exact ⟨(fun z => by rw [z, hp2] at a1; cases a1), (fun z => by rw [z, hc2] at a1; cases a1), a2⟩
  have no2 : ∀ b, H2 b = none → H b = none := fun b hb => by
    cases e : H b with
    | none => rfl
    | some o =>
      by_cases z : b = p
      · rw [z, hp2] at hb; cases hb
      · rw [k2 b o (s1 b o e) z] at hb; cases hb
  refine k (Geo.new p dx cs D (fun j => qs.getD j 0) ra) _ rfl rfl (LR.begin ?_ ?_ ?_ (fun i hi => ?_) n1 (Ne.symm nDp) nDc (fun i hi => nq _ (fq i hi)) (fun i j hi hj e => ?_)) (fun b o hb nb => ?_) (fun b hb => ?_)
  · rw [upd_same]
    congr 2
  · rw [upd_ne (Ne.symm n1)]; exact hc3
  · rw [upd_ne nDp, hD, range_getD hqs]
  · obtain ⟨a1, a2, a3⟩ := N.each _ (fq i hi)
    rw [upd_ne (nq _ (fq i hi)).1]; exact a3
  · have hi' : i < qs.length := by omega
    have hj' : j < qs.length := by omega
    have e' : qs[i] = qs[j] := by simpa [List.getD, hi', hj'] using e
    exact (List.getElem_inj N.nd).mp e'
  · rw [upd_ne nb]; exact N.same _ _ (k2 _ _ (s1 _ _ hb) nb)
  · rcases foot_begin hb with z | z | z | ⟨i, hi, z⟩
    · exact .inl z
    · refine .inr ?_
      cases e : H b with
      | none => rfl
      | some o => rw [z] at e; rw [s1 _ _ e] at ncs1; cases ncs1
    · exact .inr (no2 b (z ▸ nD))
    · exact .inr (no2 b (z ▸ (N.each _ (fq i hi)).1))
end
end Qn

namespace Qn
open PySem L2
local macro_rules | `(tactic| fail "ne") => `(tactic| first | assumption | (apply Ne.symm; assumption) | (apply ne_of_none; assumption; assumption) | (apply Ne.symm; apply ne_of_none; assumption; assumption) | (apply ne_of; assumption; assumption; (intro z; cases z)))
local macro_rules | `(tactic| fail "hp") => `(tactic| with_reducible first | assumption | apply upd_same | (apply upd_old; rotate_left; assumption; fail "hp") | (apply upd_oth; rotate_left; fail "ne"; fail "hp"))
local macro_rules | `(tactic| fail "sl") => `(tactic| with_reducible first | assumption | (apply SqL.of; fail "hp"))
local macro_rules | `(tactic| fail "st") => `(tactic| with_reducible first | assumption | (apply SqT.of; fail "hp"))
local macro_rules | `(tactic| fail "tx") => `(tactic| with_reducible first | assumption | (apply Txt.c_Card; assumption) | (apply Txt.n_Card_line; assumption) | (apply Txt.n_Card_quantum; assumption) | (apply Txt.n_Card_share; assumption) | (apply Txt.n_Card_is_ready; assumption) | (apply Txt.n_Card_spent; assumption) | (apply Txt.c_Lines; assumption) | (apply Txt.n_Lines_rules; assumption) | (apply Txt.n_Lines_cards; assumption) | (apply Txt.n_Lines_rows; assumption) | (apply Txt.n_Lines_time; assumption))
local macro_rules | `(tactic| fail "lk") => `(tactic| with_reducible first | assumption | apply lk_LF_rules | apply lk_LF_cards | apply lk_LF_rows | apply lk_LF_time | apply lk_CF_line | apply lk_CF_quantum | apply lk_CF_share | apply lk_CF_is_ready | apply lk_CF_spent | (apply lk_LF_no; decide +kernel; decide +kernel; decide +kernel; decide +kernel))
local macro_rules | `(tactic| fail "at") => `(tactic| with_reducible first | assumption | apply mc_0 | apply mc_1 | apply mc_2 | apply mc_3 | apply mc_4 | apply at_0 | apply at_1 | apply at_2 | apply at_3 | apply at_4 | (apply atI_nat; assumption) | (apply at_z; assumption))
local macro_rules | `(tactic| fail "go") => `(tactic| repeat (first
  | apply rd_step
  | with_reducible (first
    | (apply r_kFld; fail "hp"; fail "tx"; fail "tx"; fail "lk")
    | (apply r_ixL; fail "sl"; fail "at") | (apply r_ixT; fail "st"; fail "at")
    | (apply r_kMeth; fail "hp"; fail "lk") | (apply r_kBML; fail "sl")
    | (apply r_lenL; fail "sl") | (apply r_lenT; fail "st") | (apply r_lenD; fail "hp")
    | (apply r_kDGetI; fail "hp"; (first | assumption | rfl)) | (apply r_kDGetS; fail "hp"; (first | assumption | apply mv_rules | apply mv_rows | apply mv_cards | apply mv_now)) | (apply r_kDInI; fail "hp") | (apply r_kDNotInI; fail "hp")
    | (apply r_kAugF; fail "hp"; fail "tx"; fail "tx"; fail "lk")
    | (apply r_isi_tuple_tuple; fail "st") | (apply r_isi_list_tuple; fail "sl") | (apply r_isi_list_list; fail "sl") | (apply r_isi_tuple_list; fail "st")
    | (apply r_kUnT; fail "st"; with_unfolding_all rfl) | (apply r_kIL; fail "sl") | (apply r_kIT; fail "st") | (apply r_kIE; fail "st") )))
local macro_rules | `(tactic| fail "eg") => `(tactic| repeat (first
  | apply stp
  | (refine e_rul0 (fun _ => ?_))

  | (refine e_tup0 (fun _ => ?_)) ))
local macro_rules | `(tactic| fail "egs") => `(tactic| (try (with_reducible refine e_seq ?_)) <;> repeat (first
  | apply stp
  | (with_reducible refine e_seq ?_)
  | (refine e_rul0 (fun _ => ?_))

  | (refine e_tup0 (fun _ => ?_)) ))
theorem walk_r0 {n : Nat} : Walk (Itr 0 n) n (fun _ => True) (fun i H x H' => H' = H ∧ x = .int (i : Nat)) :=
  ⟨fun _ _ hi _ => hi, fun _ _ => Nat.le_refl _, fun i H x H' _ _ y => ⟨y.1, by rw [y.2, Int.zero_add]⟩⟩
theorem small_mul {i j : Int} (h1 : i.natAbs < 2 ^ 60) (h2 : j.natAbs < 2 ^ 60) : IntMulOk i j := (L2.wide_mul h1 h2 (by decide) (by decide) (by decide)).ok
theorem small_div {i j : Int} (h : 0 < j) (h2 : j < 2 ^ 60) : CDivW i j := L2.wide_div (b := 60) h (by omega) (by decide) (by decide)
/-- the law's box of draws -/
structure Box (p q : Addr) (H : Hp) : Prop where
  ne : p ≠ q
  both : ∃ (z : Int) (xs : List Int), H p = some (.lst [.ref q, .int z]) ∧ H q = some (.lst (xs.map V.int)) ∧ xs.length < 100000 ∧ 0 ≤ z ∧ z < 2147483647
def BoxF (p q : Addr) : Addr → Prop := fun b => b = p ∨ b = q
theorem Box.same {p q : Addr} {H H' : Hp} (b : Box p q H) (s : Same H H') : Box p q H' := by
  obtain ⟨z, xs, h1, h2, h3⟩ := b.both
  exact ⟨b.ne, z, xs, s _ _ h1, s _ _ h2, h3⟩
theorem Box.frame {p q : Addr} {W : Addr → Prop} {H H' : Hp} (b : Box p q H) (s : Frame W H H') (d : ∀ b, W b → ¬ BoxF p q b) : Box p q H' := by
  obtain ⟨z, xs, h1, h2, h3⟩ := b.both
  exact ⟨b.ne, z, xs, s.1 _ _ h1 fun h => d _ h (.inl rfl), s.1 _ _ h2 fun h => d _ h (.inr rfl), h3⟩
theorem Box.own {p q b : Addr} {H : Hp} (x : Box p q H) (h : BoxF p q b) : ∃ o, H b = some o ∧ ∀ xs, o ≠ .tup xs := by
  obtain ⟨z, xs, h1, h2, h3⟩ := x.both
  rcases h with e | e
  · exact ⟨_, e ▸ h1, fun xs z => by cases z⟩
  · exact ⟨_, e ▸ h2, fun xs z => by cases z⟩
theorem Step.self {W : Addr → Prop} {H H' : Hp} (f : Frame W H H') : Step W H W H' := ⟨f, fun _ h => .inl h⟩
section
variable {P : Program} {w : World} {K : PySem.W.Frag} {mg : Str → Option Value} {base : Heap} {a : Adr}
def sp_law_take (K : PySem.W.Frag) (a : Adr) : Sp := sp2 fun x y H Q _ => ∃ p q m, x = .ref p ∧ y = .int m ∧ 0 < m ∧ m ≤ 1000000000000000000 ∧ Box p q H ∧ ∀ r H', 0 ≤ r → r < m → Box p q H' → Frame (BoxF p q) H H' → Q (.int r) H'
theorem ok_law_take (T : Txt K mg a) : Cal P w K mg base CX0 1 "_law_take" ["_law_box", "_law_many"] (sp_law_take K a) := by
  obtain ⟨fd, F, b⟩ := T.f_law_take
  refine ⟨a.law_take, fd, F.ok sc_law_take (fun vs H Q E h => sp2_len h) (fun cdv A outer s H vs Q E hr h => ?_), T.g_law_take, F.kp, b⟩
  refine ⟨_, (pss_cons (ps_if (pt_cmpR (op_eqD (by exact hr.units)) (pe_ix ix_list (pv 0) pe_int (fun _ _ => rfl)) (pe_lst pa_nil) (nomark _))
 (pss_cons (ps_asg (pe_op qo_mod (pe_op qo_mul (pe_ix ix_list (pv 0) pe_int (fun _ _ => rfl)) pe_int) pe_int) (pg_sub (pv 0) pe_int set_list))
 (pss_one (ps_ret (pe_op qo_mod (pe_op qo_div (pe_ix ix_list (pv 0) pe_int (fun _ _ => rfl)) pe_int) (pv 1)))))
 pss_nil)
 (pss_cons (ps_set (i := 2) sc_law_take.nd rfl (Or.inl rfl) (pe_ix ix_list (pe_ix ix_list (pv 0) pe_int (fun _ _ => rfl)) pe_int (fun _ _ => rfl)))
 (pss_cons (ps_asg (pe_op qo_div (pv 2) (pv 1)) (pg_sub (pe_ix ix_list (pv 0) pe_int (fun _ _ => rfl)) pe_int set_list))
 (pss_cons (ps_if (PW.pt (pw_or (pt_cmpR op_eq (pe_ix ix_list (pe_ix ix_list (pv 0) pe_int (fun _ _ => rfl)) pe_int (fun _ _ => rfl)) pe_int (nomark _)) (pw_or1 (pt_cmpR op_eq (pe_ix ix_list (pe_ix ix_list (pv 0) pe_int (fun _ _ => rfl)) pe_int (fun _ _ => rfl)) (pe_un un_neg pe_int) (nomark _)))))
 (pss_one (ps_expr (pe_bm PySem.F.plainAttrs_list PySem.F.slot_list_pop PySem.F.type_list_pop mt_popAt (pe_ix ix_list (pv 0) pe_int (fun _ _ => rfl)) (pa_cons pe_int pa_nil))))
 pss_nil)
 (pss_one (ps_ret (pe_op qo_mod (pv 2) (pv 1)))))))), ?_⟩
  try dsimp only [cxOf, Cx.nox, Cx.wish, List.map_cons, List.map_nil]
  obtain ⟨x, y, rfl, h⟩ := h
  rw [show L2.start N_law_take [x, y] = [some x, some y, none] from rfl]
  obtain ⟨p, q, m, rfl, rfl, m0, m1, B, k⟩ := h
  obtain ⟨z, xs, h1, h2, hz, z0, z1⟩ := B.both
  have ne := B.ne
  fail "go"
  refine r_kLst (by decide) fun e ne0 => ?_
  refine r_eqE_ints (SqL.of (upd_old h2 ne0)) (SqL.of upd_same) ?_
  have s1 : Same H (upd H e (.lst [])) := Same.upd ne0
  generalize upd H e (.lst []) = H1 at s1 ⊢
  have h1 := s1 _ _ h1
  have h2 := s1 _ _ h2
  fail "go"
  have setp : ∀ (z' : Int) (H' : Hp), H' p = some (.lst [.ref q, .int z]) → Frame (BoxF p q) H' (upd H' p (.lst ([V.ref q, V.int z].set 1 (.int z')))) := fun z' H' hp => Frame.put (.inl rfl) hp fun xs e => by cases e
  cases xs with
  | nil =>
    refine r_kT rfl ?_
    fail "go"
    refine r_mul (small_mul (by omega) (by omega)) ?_
    fail "go"
    refine r_mod (by omega) ?_
    fail "go"
    refine r_setL (n := 1) h1 rfl ?_
    have hp : upd H1 p (.lst ([V.ref q, V.int z].set 1 (.int (z * 48271 % 2147483647)))) p = some (.lst [V.ref q, .int (z * 48271 % 2147483647)]) := upd_same
    have hq : upd H1 p (.lst ([V.ref q, V.int z].set 1 (.int (z * 48271 % 2147483647)))) q = some (.lst []) := by rw [upd_ne (Ne.symm ne)]; exact h2
    have f1 := (Frame.of_same (W := BoxF p q) s1).trans (setp (z * 48271 % 2147483647) H1 h1)
    generalize upd H1 p (.lst ([V.ref q, V.int z].set 1 (.int (z * 48271 % 2147483647)))) = H2 at hp hq f1 ⊢
    fail "go"
    refine r_div (small_div (by omega) (by omega)) ?_
    fail "go"
    refine r_mod m0 ?_
    exact k _ H2 (Int.emod_nonneg _ (by omega)) (Int.emod_lt_of_pos _ m0) ⟨ne, _, [], hp, hq, by simp, Int.emod_nonneg _ (by omega), Int.emod_lt_of_pos _ (by omega)⟩ f1
  | cons x r =>
    refine r_kF rfl ?_
    fail "go"
    rw [List.map_cons] at h2
    fail "go"
    refine r_div (small_div m0 (by omega)) ?_
    fail "go"
    refine r_setL (n := 0) h2 (by unfold ixN; rw [if_pos (by omega), if_pos (by simp)]; rfl) ?_
    have hp : upd H1 q (.lst ((V.int x :: r.map V.int).set 0 (.int (x / m)))) p = some (.lst [V.ref q, .int z]) := by rw [upd_ne ne]; exact h1
    have hq : upd H1 q (.lst ((V.int x :: r.map V.int).set 0 (.int (x / m)))) q = some (.lst (.int (x / m) :: r.map V.int)) := upd_same
    have f1 : Frame (BoxF p q) H (upd H1 q (.lst ((V.int x :: r.map V.int).set 0 (.int (x / m))))) := (Frame.of_same (W := BoxF p q) s1).trans (Frame.put (.inr rfl) h2 fun xs e => by cases e)
    generalize upd H1 q (.lst ((V.int x :: r.map V.int).set 0 (.int (x / m)))) = H2 at hp hq f1 ⊢
    have hz' : r.length < 100000 := by simp at hz; omega
    have B2 : Box p q H2 := ⟨ne, z, x / m :: r, hp, hq, hz, z0, z1⟩
    have fin : ∀ H3, Box p q H3 → Frame (BoxF p q) H H3 → (tOp oMod (tVar 2) (tVar 1)) [some (.ref p), some (.int m), some (.int x)] H3 Q := fun H3 B3 f3 => by
      fail "go"
      refine r_mod m0 ?_
      exact k _ H3 (Int.emod_nonneg _ (by omega)) (Int.emod_lt_of_pos _ m0) B3 f3
    have pops : tDrop (tBM K "list" rPopAt (tOp (rIxL K) (tVar 0) (tC (V.int 0))) (tCons (tC (V.int 0)) tNil)) { nx := tRet (tOp oMod (tVar 2) (tVar 1)) { nx := fun x H' => Q V.non H', rt := Q }, rt := Q } [some (.ref p), some (.int m), some (.int x)] H2 := by
      fail "go"
      refine ⟨q, _, 0, 0, _, rfl, rfl, hq, by decide, by decide, by simp [seqIndex?], rfl, ?_⟩
      refine fin _ ⟨ne, z, r, ?_, upd_same, hz', z0, z1⟩ (f1.trans (Frame.put (.inr rfl) hq fun xs e => by cases e))
      rw [upd_ne ne]; exact hp
    fail "go"
    refine r_kIf (fun h => ?_) (fun h => ?_)
    · exact r_kTT pops
    · fail "go"
      refine r_kIf (fun h => ?_) (fun h => ?_)
      · exact pops
      · refine r_next ?_
        exact fin H2 B2 f1
theorem sqL_same {H H' : Hp} {a : Addr} {xs : List V} (h : SqL K H a xs) (s : Same H H') : SqL K H' a xs := by
  rcases h with (h | ⟨o, h⟩) | h
  · exact .inl (.inl (s _ _ h))
  · exact .inl (.inr ⟨o, s _ _ h⟩)
  · exact .inr h
def sp_law_begun (K : PySem.W.Frag) (a : Adr) : Sp := sp1 fun x H Q _ => ∃ (s : Addr) (ns : List Int), x = .ref s ∧ SqL K H s (ns.map V.int) ∧ ns.length ≤ 1000 ∧ (∀ z ∈ ns, Builtin.Int.intBits z ≤ 1048576) ∧
  ∀ p q H', H p = none → H q = none → Same H H' → Box p q H' → Q (.ref p) H'
theorem cell_mul {z : Int} (h : Builtin.Int.intBits z ≤ 1048576) : IntMulOk z 69621 := IntMulOk.of_le (m := 1048576) (n := 17) h (by decide) (by decide)
theorem ok_law_begun (T : Txt K mg a) : Cal P w K mg base CX0 1 "_law_begun" ["_law_script"] (sp_law_begun K a) := by
  obtain ⟨fd, F, b⟩ := T.f_law_begun
  refine ⟨a.law_begun, fd, F.ok sc_law_begun (fun vs H Q E h => sp1_len h) (fun cdv A outer s H vs Q E hr h => ?_), T.g_law_begun, F.kp, b⟩
  refine ⟨_, (pss_cons (ps_set (i := 1) sc_law_begun.nd rfl (Or.inl rfl) pe_int)
 (pss_cons (ps_for PassesOwn.never rfl (pi_list (pv 0)) (pg_name (i := 2) sc_law_begun.nd rfl (Or.inl rfl))
 (pss_one (ps_set (i := 1) sc_law_begun.nd rfl (Or.inl rfl) (pe_op qo_mod (pe_op qo_add (pe_op qo_add (pe_op qo_mul (pv 1) pe_int) (pe_op qo_mul (pv 2) pe_int)) pe_int) pe_int))))
 (pss_one (ps_ret (pe_lst (pa_cons (pe_callTy qr_list (by rfl) T.z_list (by decide +kernel) (pa_cons (pv 0) pa_nil)) (pa_cons (pe_op qo_mul (pv 1) (pe_callTy qr_int (by rfl) T.z_int (by decide +kernel) (pa_cons (pe_cmpR qo_gt (pe_callB qr_len (by rfl) T.z_len (by decide +kernel) (pa_cons (pv 0) pa_nil)) pe_int (nomark _)) pa_nil))) pa_nil))))))), ?_⟩
  try dsimp only [cxOf, Cx.nox, Cx.wish, List.map_cons, List.map_nil]
  obtain ⟨x, rfl, h⟩ := h
  rw [show L2.start N_law_begun [x] = [some x, none, none] from rfl]
  obtain ⟨s, ns, rfl, hs, hn, hb, k⟩ := h
  fail "go"
  have w1 := walk_list (K := K) (a := s) (xs := ns.map V.int)
  rw [List.length_map] at w1
  refine w_for w1 (fun i σ H' => H' = H ∧ ∃ (z : Int) (v2 : Option V), σ = [some (.ref s), some (.int z), v2] ∧ 0 ≤ z ∧ z < 2147483647) ⟨rfl, 0, none, rfl, by omega, by omega⟩ (fun i σ H' hi q => by rw [q.1]; exact hs) ?_ ?_
  · rintro i x σ H1 H2 hi ⟨rfl, z, v2, rfl, z0, z1⟩ ⟨rfl, hx⟩
    rw [List.getElem?_map, List.getElem?_eq_getElem hi] at hx
    cases Option.some.inj hx
    have hc := hb _ (List.getElem_mem hi)
    generalize ns[i] = c at hc ⊢
    fail "go"
    refine r_mul (small_mul (by omega) (by omega)) ?_
    fail "go"
    refine r_mul (cell_mul hc) ?_
    fail "go"
    refine r_mod (by omega) ?_
    fail "go"
    exact ⟨rfl, _, _, rfl, Int.emod_nonneg _ (by omega), Int.emod_lt_of_pos _ (by omega)⟩
  · rintro σ H1 ⟨rfl, z, v2, rfl, z0, z1⟩
    fail "go"
    refine r_listL hs fun l nl => ?_
    have hs2 : SqL K (upd H1 l (.lst (ns.map V.int))) s (ns.map V.int) := sqL_same hs (Same.upd nl)
    have hl : upd H1 l (.lst (ns.map V.int)) l = some (.lst (ns.map V.int)) := upd_same
    have s2 : Same H1 (upd H1 l (.lst (ns.map V.int))) := Same.upd nl
    generalize upd H1 l (.lst (ns.map V.int)) = H2 at hs2 hl s2 ⊢
    fail "go"
    refine r_mul (small_mul (by omega) (by split <;> decide)) ?_
    fail "go"
    refine r_kLst (by simp) fun p np => ?_
    have np1 : H1 p = none := by
      cases e : H1 p with
      | none => rfl
      | some o => rw [s2 _ _ e] at np; cases np
    refine k p l _ np1 nl (s2.trans (Same.upd np)) ⟨(fun z => by rw [z, hl] at np; cases np), _, ns, upd_same, upd_old hl np, by omega, ?_, ?_⟩
    · split <;> omega
    · split <;> omega
end
end Qn

namespace Qn
open PySem L2
local macro_rules | `(tactic| fail "ne") => `(tactic| first | assumption | (apply Ne.symm; assumption) | (apply ne_of_none; assumption; assumption) | (apply Ne.symm; apply ne_of_none; assumption; assumption) | (apply ne_of; assumption; assumption; (intro z; cases z)))
local macro_rules | `(tactic| fail "hp") => `(tactic| with_reducible first | assumption | apply upd_same | (apply upd_old; rotate_left; assumption; fail "hp") | (apply upd_oth; rotate_left; fail "ne"; fail "hp"))
local macro_rules | `(tactic| fail "sl") => `(tactic| with_reducible first | assumption | (apply SqL.of; fail "hp"))
local macro_rules | `(tactic| fail "st") => `(tactic| with_reducible first | assumption | (apply SqT.of; fail "hp"))
local macro_rules | `(tactic| fail "tx") => `(tactic| with_reducible first | assumption | (apply Txt.c_Card; assumption) | (apply Txt.n_Card_line; assumption) | (apply Txt.n_Card_quantum; assumption) | (apply Txt.n_Card_share; assumption) | (apply Txt.n_Card_is_ready; assumption) | (apply Txt.n_Card_spent; assumption) | (apply Txt.c_Lines; assumption) | (apply Txt.n_Lines_rules; assumption) | (apply Txt.n_Lines_cards; assumption) | (apply Txt.n_Lines_rows; assumption) | (apply Txt.n_Lines_time; assumption))
local macro_rules | `(tactic| fail "lk") => `(tactic| with_reducible first | assumption | apply lk_LF_rules | apply lk_LF_cards | apply lk_LF_rows | apply lk_LF_time | apply lk_CF_line | apply lk_CF_quantum | apply lk_CF_share | apply lk_CF_is_ready | apply lk_CF_spent | (apply lk_LF_no; decide +kernel; decide +kernel; decide +kernel; decide +kernel))
local macro_rules | `(tactic| fail "at") => `(tactic| with_reducible first | assumption | apply mc_0 | apply mc_1 | apply mc_2 | apply mc_3 | apply mc_4 | apply at_0 | apply at_1 | apply at_2 | apply at_3 | apply at_4 | (apply atI_nat; assumption) | (apply at_z; assumption))
local macro_rules | `(tactic| fail "go") => `(tactic| repeat (first
  | apply rd_step
  | with_reducible (first
    | (apply r_kFld; fail "hp"; fail "tx"; fail "tx"; fail "lk")
    | (apply r_ixL; fail "sl"; fail "at") | (apply r_ixT; fail "st"; fail "at")
    | (apply r_kMeth; fail "hp"; fail "lk") | (apply r_kBML; fail "sl")
    | (apply r_lenL; fail "sl") | (apply r_lenT; fail "st") | (apply r_lenD; fail "hp")
    | (apply r_kDGetI; fail "hp"; (first | assumption | rfl)) | (apply r_kDGetS; fail "hp"; (first | assumption | apply mv_rules | apply mv_rows | apply mv_cards | apply mv_now)) | (apply r_kDInI; fail "hp") | (apply r_kDNotInI; fail "hp")
    | (apply r_kAugF; fail "hp"; fail "tx"; fail "tx"; fail "lk")
    | (apply r_isi_tuple_tuple; fail "st") | (apply r_isi_list_tuple; fail "sl") | (apply r_isi_list_list; fail "sl") | (apply r_isi_tuple_list; fail "st")
    | (apply r_kUnT; fail "st"; with_unfolding_all rfl) | (apply r_kIL; fail "sl") | (apply r_kIT; fail "st") | (apply r_kIE; fail "st") )))
local macro_rules | `(tactic| fail "eg") => `(tactic| repeat (first
  | apply stp
  | (refine e_rul0 (fun _ => ?_))

  | (refine e_tup0 (fun _ => ?_)) ))
local macro_rules | `(tactic| fail "egs") => `(tactic| (try (with_reducible refine e_seq ?_)) <;> repeat (first
  | apply stp
  | (with_reducible refine e_seq ?_)
  | (refine e_rul0 (fun _ => ?_))

  | (refine e_tup0 (fun _ => ?_)) ))
theorem Frame.late {W : Addr → Prop} {H H' : Hp} {p : Addr} {o : HO} (f : Frame W H H') (n : H p = none) : Frame W H (L2.upd H' p o) :=
  ⟨fun b v e nb => upd_oth (f.1 b v e nb) (fun z => by rw [z, n] at e; cases e), fun b xs e => upd_oth (f.2 b xs e) (fun z => by rw [z, n] at e; cases e)⟩
theorem Box.out {p q b : Addr} {H : Hp} (B : Box p q H) (n : H b = none) : ¬ BoxF p q b := fun h => by
  obtain ⟨o, e, _⟩ := B.own h
  rw [n] at e; cases e
theorem Box.new {p q b : Addr} {o : HO} {H : Hp} (B : Box p q H) (n : H b = none) : Box p q (upd H b o) := B.same (Same.upd n)
theorem Box.put {p q b : Addr} {o : HO} {H : Hp} (B : Box p q H) (n : ¬ BoxF p q b) : Box p q (upd H b o) := by
  obtain ⟨z, xs, h1, h2, h3⟩ := B.both
  exact ⟨B.ne, z, xs, by rw [upd_ne fun e => n (.inl e.symm)]; exact h1, by rw [upd_ne fun e => n (.inr e.symm)]; exact h2, h3⟩
theorem pick2 {u v : V} {r : Int} (h0 : 0 ≤ r) (h1 : r < 2) : atI [u, v] r = some (if decide (r = 0) then u else v) := by
  rcases (show r = 0 ∨ r = 1 by omega) with e | e
  · subst e; exact at_0
  · subst e; exact at_1
section
variable {P : Program} {w : World} {K : PySem.W.Frag} {mg : Str → Option Value} {base : Heap} {a : Adr} {p q : Addr} {H : Hp} {Q : VK} {E : XK} {σ : St}
theorem w_take {m : Int} (B : Box p q H) (m0 : 0 < m) (m1 : m ≤ 1000000000000000000) (k : ∀ r H', 0 ≤ r → r < m → Box p q H' → Frame (BoxF p q) H H' → Q (.int r) H') : sp_law_take K a [.ref p, .int m] H Q E :=
  ⟨_, _, rfl, p, q, m, rfl, rfl, m0, m1, B, k⟩
theorem w_pick {n : Nat} {u v : V} (hv : σ[n]? = some (some (.ref p))) (B : Box p q H) (k : ∀ (b : Bool) H', Box p q H' → Frame (BoxF p q) H H' → Q (if b then u else v) H') :
    kLst [u, v] H (fun x H1 => tCall (sp_law_take K a) [] E0 (tCons (tVar n) (tCons (tC (.int 2)) tNil)) σ H1 fun y H2 => rIxL K x y H2 Q) := by
  refine r_kLst (by simp) fun l nl => ?_
  refine ⟨_, hv, ?_⟩
  show tCons (tC (V.int 2)) tNil σ _ _
  refine rd_step ?_
  refine rd_step ?_
  refine rd_step ?_
  refine w_take (m := 2) (B.new nl) (by omega) (by omega) fun r H1 r0 r1 B1 f1 => ?_
  have hl : H1 l = some (.lst [u, v]) := f1.1 _ _ upd_same (B.out nl)
  refine r_ixL (SqL.of hl) (pick2 r0 r1) ?_
  exact k _ H1 B1 ((Frame.new nl).trans f1)
def goodP (x : Int × Int) : Prop := 1 ≤ x.1 ∧ x.1 ≤ 8 ∧ x.1 ≤ x.2 ∧ x.2 ≤ 40
def sp_law_rules (K : PySem.W.Frag) (a : Adr) : Sp := sp1 fun x H Q _ => ∃ p q, x = .ref p ∧ Box p q H ∧ ∀ ra R la ps H', RulAt H' ra R la ps → R.Ok → Box p q H' → Frame (BoxF p q) H H' → Q (.ref ra) H'
theorem ok_law_rules (T : Txt K mg a) : Cal P w K mg base CX0 2 "_law_rules" ["_law_box"] (sp_law_rules K a) := by
  obtain ⟨fd, F, b⟩ := T.f_law_rules
  refine ⟨a.law_rules, fd, F.ok sc_law_rules (fun vs H Q E h => sp1_len h) (fun cdv A outer s H vs Q E hr h => ?_), T.g_law_rules, F.kp, b⟩
  refine ⟨_, (pss_cons (ps_set (i := 1) sc_law_rules.nd rfl (Or.inl rfl) (pe_lst pa_nil))
 (pss_cons (ps_for PassesOwn.never rfl (pi_range1 rfl T.z_range (pa_cons (pe_op qo_add pe_int (q_call (ok_law_take T) (hr.mono (by decide)) pass0 (pa_cons (pv 0) (pa_cons pe_int pa_nil)))) pa_nil)) (pg_name (i := 2) sc_law_rules.nd rfl (Or.inl rfl))
 (pss_cons (ps_set (i := 3) sc_law_rules.nd rfl (Or.inl rfl) (pe_op qo_add pe_int (q_call (ok_law_take T) (hr.mono (by decide)) pass0 (pa_cons (pv 0) (pa_cons (pe_ix ix_list (pe_lst (pa_cons pe_int (pa_cons pe_int pa_nil))) (q_call (ok_law_take T) (hr.mono (by decide)) pass0 (pa_cons (pv 0) (pa_cons pe_int pa_nil))) (fun _ _ => rfl)) pa_nil)))))
 (pss_one (ps_expr (pe_bm PySem.F.plainAttrs_list PySem.F.slot_list_append PySem.F.type_list_append mt_append (pv 1) (pa_cons (pe_tup (pa_cons (pv 3) (pa_cons (pe_op qo_add (pv 3) (q_call (ok_law_take T) (hr.mono (by decide)) pass0 (pa_cons (pv 0) (pa_cons (pe_ix ix_list (pe_lst (pa_cons pe_int (pa_cons (pe_op qo_sub pe_int (pv 3)) pa_nil))) (q_call (ok_law_take T) (hr.mono (by decide)) pass0 (pa_cons (pv 0) (pa_cons pe_int pa_nil))) (fun _ _ => rfl)) pa_nil)))) pa_nil))) pa_nil))))))
 (pss_cons (ps_set (i := 4) sc_law_rules.nd rfl (Or.inl rfl) (pe_ix ix_list (pe_lst (pa_cons pe_non (pa_cons (pe_op qo_add pe_int (q_call (ok_law_take T) (hr.mono (by decide)) pass0 (pa_cons (pv 0) (pa_cons (pe_ix ix_list (pe_lst (pa_cons pe_int (pa_cons pe_int pa_nil))) (q_call (ok_law_take T) (hr.mono (by decide)) pass0 (pa_cons (pv 0) (pa_cons pe_int pa_nil))) (fun _ _ => rfl)) pa_nil)))) pa_nil))) (q_call (ok_law_take T) (hr.mono (by decide)) pass0 (pa_cons (pv 0) (pa_cons pe_int pa_nil))) (fun _ _ => rfl)))
 (pss_one (ps_ret (pe_tup (pa_cons (pe_callTy qr_tuple (by rfl) T.z_tuple (by decide +kernel) (pa_cons (pv 1) pa_nil)) (pa_cons (pv 4) (pa_cons (pe_ix ix_list (pe_lst (pa_cons pe_str (pa_cons pe_str pa_nil))) (q_call (ok_law_take T) (hr.mono (by decide)) pass0 (pa_cons (pv 0) (pa_cons pe_int pa_nil))) (fun _ _ => rfl)) pa_nil))))))))), ?_⟩
  try dsimp only [cxOf, Cx.nox, Cx.wish, List.map_cons, List.map_nil]
  obtain ⟨x, rfl, h⟩ := h
  rw [show L2.start N_law_rules [x] = [some x, none, none, none, none] from rfl]
  obtain ⟨p, q, rfl, B, k⟩ := h
  fail "go"
  refine r_kLst (by simp) fun L nL => ?_
  have oL := B.out nL
  have B0 : Box p q (upd H L (.lst [])) := B.new nL
  have hL0 : upd H L (.lst []) L = some (.lst []) := upd_same
  have f0 : Frame (BoxF p q) H (upd H L (.lst [])) := Frame.new nL
  generalize upd H L (.lst []) = H0 at B0 hL0 f0 ⊢
  fail "go"
  refine w_take B0 (by omega) (by omega) fun n H1 n0 n1 B1 f1 => ?_
  have hL1 : H1 L = some (.lst []) := f1.1 _ _ hL0 oL
  have f1 := f0.trans f1
  fail "go"
  refine r_kIR1 (by omega) ?_
  refine w_for walk_r0 (fun i σ H' => ∃ v2 v3 ps prs, σ = [some (.ref p), some (.ref L), v2, v3, none] ∧ Box p q H' ∧ Frame (BoxF p q) H H' ∧ H' L = some (.lst (ps.map V.ref)) ∧ ps.length = i ∧ prs.length = i ∧ (∀ x ∈ prs, goodP x) ∧
      ∀ (j : Nat) (x : Addr), ps[j]? = some x → H' x = some (.tup [.int (prs.getD j (0, 0)).1, .int (prs.getD j (0, 0)).2])) ⟨none, none, [], [], rfl, B1, f1, hL1, rfl, rfl, (fun x h => by cases h), (fun j x e => by cases e)⟩ (fun _ _ _ _ _ => trivial) ?_ ?_
  · rintro i x σ H2 H3 hi ⟨v2, v3, ps, prs, rfl, B2, f2, hL2, l1, l2, gd, pr⟩ ⟨rfl, rfl⟩
    fail "go"
    refine w_pick (by rfl) B2 fun b1 H4 B4 f4 => ?_
    fail "go"
    have e4 : (if b1 then V.int 3 else V.int 8) = V.int (if b1 then 3 else 8) := by cases b1 <;> rfl
    rw [e4]
    refine w_take B4 (by split <;> omega) (by split <;> omega) fun r H5 r0 r1 B5 f5 => ?_
    have r1 : r < 8 := by split at r1 <;> omega
    have hL5 : H5 L = some (.lst (ps.map V.ref)) := (f4.trans f5).1 _ _ hL2 oL
    fail "go"
    refine w_pick (by rfl) B5 fun b2 H6 B6 f6 => ?_
    have e6 : (if b2 then V.int 4 else V.int (41 - (1 + r))) = V.int (if b2 then 4 else 41 - (1 + r)) := by cases b2 <;> rfl
    rw [e6]
    fail "go"
    refine w_take B6 (by split <;> omega) (by split <;> omega) fun s H7 s0 s1 B7 f7 => ?_
    have s1 : 1 + r + s ≤ 40 := by split at s1 <;> omega
    have f : Frame (BoxF p q) H3 H7 := ((f4.trans f5).trans f6).trans f7
    have hL7 : H7 L = some (.lst (ps.map V.ref)) := f.1 _ _ hL2 oL
    fail "go"
    refine r_kTup (by simp) fun t nt => ?_
    have f8 : Frame (BoxF p q) H3 (upd H7 t (.tup [.int (1 + r), .int (1 + r + s)])) := f.trans (Frame.new nt)
    have hL8 := upd_old (o' := .tup [.int (1 + r), .int (1 + r + s)]) hL7 nt
    have ht8 : upd H7 t (.tup [.int (1 + r), .int (1 + r + s)]) t = _ := upd_same
    have B8 : Box p q (upd H7 t (.tup [.int (1 + r), .int (1 + r + s)])) := B7.new nt
    generalize upd H7 t (.tup [.int (1 + r), .int (1 + r + s)]) = H8 at f8 hL8 ht8 B8 ⊢
    fail "go"
    refine r_append hL8 (by rw [List.length_map]; omega) ?_
    have tup8 : ∀ b xs, H8 b = some (.tup xs) → upd H8 L (.lst (ps.map V.ref ++ [V.ref t])) b = some (.tup xs) := fun b xs e => upd_oth e fun z => by rw [z, hL8] at e; cases e
    refine ⟨_, _, ps ++ [t], prs ++ [(1 + r, 1 + r + s)], rfl, B8.put oL, (f2.trans f8).late nL, by rw [upd_same, List.map_append]; rfl, by simp [l1], by simp [l2], fun x hx => ?_, fun j x e => ?_⟩
    · rcases List.mem_append.mp hx with z | z
      · exact gd x z
      · rw [List.mem_singleton] at z
        rw [z]
        exact ⟨by show 1 ≤ 1 + r; omega, by show 1 + r ≤ 8; omega, by show 1 + r ≤ 1 + r + s; omega, s1⟩
    · by_cases hj : j < ps.length
      · rw [List.getElem?_append_left hj] at e
        have := f8.2 _ _ (pr j x e)
        rw [show (prs ++ [(1 + r, 1 + r + s)]).getD j (0, 0) = prs.getD j (0, 0) by simp [List.getD, List.getElem?_append_left (show j < prs.length by omega)]]
        exact tup8 _ _ this
      · have ej : j = i := by
          have := (List.getElem?_eq_some_iff.mp e).1
          simp at this; omega
        subst ej
        rw [List.getElem?_append_right (by omega), l1, Nat.sub_self] at e
        cases Option.some.inj e
        rw [show (prs ++ [(1 + r, 1 + r + s)]).getD j (0, 0) = (1 + r, 1 + r + s) by simp [List.getD, List.getElem?_append_right (show prs.length ≤ j by omega), l2]]
        exact tup8 _ _ ht8
  · rintro σ H2 ⟨v2, v3, ps, prs, rfl, B2, f2, hL2, l1, l2, gd, pr⟩
    have hn : (1 + n).toNat ≤ 4 ∧ 1 ≤ (1 + n).toNat := by omega
    fail "go"
    refine w_pick (by rfl) B2 fun b1 H4 B4 f4 => ?_
    have e4 : (if b1 then V.int 8 else V.int 96) = V.int (if b1 then 8 else 96) := by cases b1 <;> rfl
    rw [e4]
    fail "go"
    refine w_take B4 (by split <;> omega) (by split <;> omega) fun r H5 r0 r1 B5 f5 => ?_
    have r1 : r < 96 := by split at r1 <;> omega
    fail "go"
    refine w_pick (by rfl) B5 fun b2 H6 B6 f6 => ?_
    have e6 : (if b2 then V.non else V.int (5 + r)) = bV (if b2 then none else some (5 + r)) := by cases b2 <;> rfl
    rw [e6]
    have f : Frame (BoxF p q) H2 H6 := (f4.trans f5).trans f6
    have hL6 : H6 L = some (.lst (ps.map V.ref)) := f.1 _ _ hL2 oL
    fail "go"
    refine r_tupleL (SqL.of hL6) fun la nla => ?_
    have fa : Frame (BoxF p q) H2 (upd H6 la (.tup (ps.map V.ref))) := f.trans (Frame.new nla)
    have hla : upd H6 la (.tup (ps.map V.ref)) la = _ := upd_same
    have Ba := B6.new (o := .tup (ps.map V.ref)) nla
    generalize upd H6 la (.tup (ps.map V.ref)) = H7 at fa hla Ba ⊢
    fail "go"
    refine w_pick (by rfl) Ba fun b3 H8 B8 f8 => ?_
    have e8 : (if b3 then V.str "kept" else V.str "anew") = V.str (chS b3) := by cases b3 <;> rfl
    rw [e8]
    fail "go"
    refine r_kTup (by simp) fun ra nra => ?_
    have f9 : Frame (BoxF p q) H2 (upd H8 ra (.tup [V.ref la, bV (if b2 then none else some (5 + r)), V.str (chS b3)])) := (fa.trans f8).trans (Frame.new nra)
    refine k ra ⟨prs, if b2 then none else some (5 + r), b3⟩ la ps _ ⟨upd_same, upd_old (f8.2 _ _ hla) nra, by rw [l1]; exact l2.symm, fun i x e => f9.2 _ _ (pr i x e)⟩ ⟨by show 1 ≤ prs.length; omega, by show prs.length ≤ 4; omega, gd, fun b hb => ?_⟩ (B8.new nra) (f2.trans f9)
    cases b2 with
    | true => cases hb
    | false => cases Option.some.inj hb; omega
end
end Qn

/-! S2: the box, rules, lines, alike, by parts. -/
namespace Qn
open PySem L2
/-- the tuples of a heap -/
def tups (H : Hp) : Hp := fun a => match H a with
  | some (.tup xs) => some (.tup xs)
  | _ => none
theorem tups_of {H : Hp} {a : Addr} {xs : List V} (h : H a = some (.tup xs)) : tups H a = some (.tup xs) := by unfold tups; rw [h]
theorem tups_sub {H : Hp} : Same (tups H) H := fun a o e => by
  unfold tups at e
  split at e
  · rename_i xs h; rw [h]; exact e
  · cases e
theorem tups_tup {H : Hp} {b : Addr} (h : tups H b ≠ none) : ∃ xs, tups H b = some (.tup xs) := by
  unfold tups at h ⊢
  split
  · exact ⟨_, rfl⟩
  · rename_i n
    split at h
    · rename_i xs h2; exact absurd h2 (n xs)
    · exact absurd rfl h
theorem RulAt.tups {H : Hp} {ra la : Addr} {R : Rul} {ps : List Addr} (h : RulAt H ra R la ps) : RulAt (Qn.tups H) ra R la ps := ⟨tups_of h.rules, tups_of h.lines, h.len, fun i p e => tups_of (h.pair i p e)⟩
section
variable {P P' F : List As} {A : As} {H H' : Hp}
theorem tups_off {h : Hp} (s : Same h H) (n : NoTup h) : Apart (tups H) h := fun b => by
  cases e : h b with
  | none => exact .inr rfl
  | some o =>
    refine .inl ?_
    cases q : tups H b with
    | none => rfl
    | some u =>
      obtain ⟨xs, z⟩ := tups_tup (H := H) (b := b) (by rw [q]; simp)
      have e1 := s _ _ e
      rw [tups_sub _ _ z] at e1
      exact absurd e (by rw [← Option.some.inj e1]; exact n b xs)
theorem tups_k {k : Hp} (s : Same k H) : Same (tups H) (hor k (tups H)) := fun b o e => by
  cases z : k b with
  | none => rw [hor_r z]; exact e
  | some u =>
    have e1 := s _ _ z
    rw [tups_sub _ _ e] at e1
    rw [hor_l z, e1]
/-- what is new, and tuples -/
theorem Sat.add {hA : Hp} (s : Sat P H) (z : Same H H') (sA : Same hA H') (fr : ∀ b, hA b ≠ none → H b = none) (nt : NoTup hA) (hp : A.p (tups H') hA) : Sat (A :: P) H' := by
  obtain ⟨k, h, s1, s2, x, n, y⟩ := s
  have ak : Apart k hA := fun b => by
    cases e : hA b with
    | none => exact .inr rfl
    | some o => exact .inl (s1.free (fr b (by rw [e]; simp)))
  have ah : Apart hA h := fun b => by
    cases e : hA b with
    | none => exact .inl rfl
    | some o => exact .inr (s2.free (fr b (by rw [e]; simp)))
  refine ⟨hor k (tups H'), hor hA h, hor_sub (s1.trans z) tups_sub, hor_sub sA (s2.trans z), ?_, noTup_hor nt n, hA, h, same_hor_l, same_hor_r ah, ah, A.mono (tups_k (s1.trans z)) hp, y.mono same_hor_l⟩
  exact hor_apart (hor_apart ak.symm x.symm).symm (hor_apart (tups_off sA nt).symm (tups_off (s2.trans z) n).symm).symm
/-- of a heap the cells of W -/
noncomputable def cutH (W : Addr → Prop) (H : Hp) : Hp := fun a => open Classical in if W a then H a else none
theorem cutH_in {W : Addr → Prop} {a : Addr} (h : W a) : cutH W H a = H a := by unfold cutH; rw [if_pos h]
theorem cutH_out {W : Addr → Prop} {a : Addr} (h : ¬ W a) : cutH W H a = none := by unfold cutH; rw [if_neg h]
theorem cutH_sub {W : Addr → Prop} : Same (cutH W H) H := fun a o e => by
  by_cases h : W a
  · rw [cutH_in h] at e; exact e
  · rw [cutH_out h] at e; cases e
theorem cutH_ne {W : Addr → Prop} {a : Addr} (h : cutH W H a ≠ none) : W a := Classical.byContradiction fun z => h (cutH_out z)
/-- an owned part goes over into another one, in what is its own or new; tuples may be new -/
theorem Sat.open (s : Sat (A :: F) H) : ∃ k h, Same k H ∧ Same h H ∧ A.p k h ∧ ∀ (B : As) (W W' : Addr → Prop) (H' : Hp), (∀ b, W b → h b ≠ none) →
    Step W H W' H' → (∀ b, W' b → ∀ xs, H' b ≠ some (.tup xs)) → (∀ k', Same k k' → Same (tups H') k' → B.p k' (cutH W' H')) → Sat (B :: F) H' := by
  obtain ⟨k, h, s1, s2, ap, nt, pA, cl⟩ := s.part
  refine ⟨k, h, s1, s2, pA, fun B W W' H' wh S own hp => ?_⟩
  have kH : Same k H' := fun b o e => S.1.1 b o (s1 _ _ e) fun w => by
    rcases ap b with z | z
    · rw [z] at e; cases e
    · exact wh b w z
  have n' : NoTup (cutH W' H') := fun b xs e => by
    by_cases w : W' b
    · rw [cutH_in w] at e; exact own b w xs e
    · rw [cutH_out w] at e; cases e
  have new : ∀ b, cutH W' H' b ≠ none → h b ≠ none ∨ H b = none := fun b n => (S.2 b (cutH_ne n)).imp (wh b) id
  refine cl [B] H' (hor k (tups H')) (cutH W' H') same_hor_l (hor_sub kH tups_sub) cutH_sub ?_ n' ⟨cutH W' H', hnil, Same.refl _, same_nil, fun _ => .inr rfl, hp _ same_hor_l (tups_k kH), trivial⟩ (fun b o e z => S.1.1 b o e fun w => wh b w z) (fun b n => ?_) new
  · refine hor_apart (fun b => ?_) (tups_off cutH_sub n')
    by_cases c : cutH W' H' b = none
    · exact .inr c
    · refine .inl ?_
      rcases new b c with z | z
      · exact (ap b).resolve_right z
      · exact s1.free z
  · by_cases z : k b = none
    · rw [hor_r z] at n
      obtain ⟨xs, q⟩ := tups_tup n
      exact .inr (.inr (.inr ⟨xs, by rw [hor_r z]; exact q⟩))
    · exact .inr (.inl z)
end
/-! ### rules -/
def RulX (R : Rul) : Ty := fun v => ⟨fun k _ => ∃ ra la ps, v = .ref ra ∧ RulAt k ra R la ps, fun s ⟨ra, la, ps, e, x⟩ => ⟨ra, la, ps, e, x.same s⟩⟩
def RlsX (R : Rul) : Ty := fun v => ⟨fun k _ => ∃ (la : Addr) (ps : List Addr), v = .ref la ∧ k la = some (.tup (ps.map V.ref)) ∧ ps.length = R.lines.length ∧ ∀ i p, ps[i]? = some p → k p = some (.tup [.int (R.q i), .int (R.s i)]),
  fun s ⟨la, ps, e, h1, h2, h3⟩ => ⟨la, ps, e, s _ _ h1, h2, fun i p q => s _ _ (h3 i p q)⟩⟩
instance pers_rul {R : Rul} : Pers (RulX R) := ⟨fun _ _ _ x => x⟩
instance pers_rls {R : Rul} : Pers (RlsX R) := ⟨fun _ _ _ x => x⟩
/-- what is known for good of one value, of another -/
theorem Sat.know {P F : List As} {X : Ty} {B : As} {v : V} {H : Hp} [t : Take P v X F] (s : Sat P H) (f : ∀ k h, (X v).p k h → B.p k hnil) : Sat (B :: P) H := by
  obtain ⟨k, h, s1, s2, x, n, y⟩ := s
  obtain ⟨h1, h2, t1, t2, z, pA, pF⟩ := t.tk _ _ y
  exact ⟨k, h, s1, s2, x, n, hnil, h, same_nil, Same.refl _, apart_nil, f _ _ pA, y⟩
/-- what is told of k -/
theorem Sat.tell {P F : List As} {X : Ty} {v : V} {H : Hp} [t : Take P v X F] (s : Sat P H) : ∃ k h, Same k H ∧ Same h H ∧ Apart k h ∧ (X v).p k h := by
  obtain ⟨k, h, s1, s2, x, n, y⟩ := s
  obtain ⟨h1, h2, t1, t2, z, pA, pF⟩ := t.tk _ _ y
  exact ⟨k, h1, s1, t1.trans s2, x.sub (Same.refl _) t1, pA⟩
section
variable {P F : List As} {K : PySem.W.Frag} {σ : St} {Q : VK} {a p : Addr} {R : Rul} {l : Nat} {v : V}
theorem e_rul0 [t : Take P (.ref p) (RulX R) F] (k : ∀ la, Ent (At (.ref la) (RlsX R) :: P) (fun H => Q (.ref la) H)) : Ent P (fun H => rIxT K (.ref p) (.int 0) H Q) := fun H s => by
  obtain ⟨g, h, s1, s2, x, ra, la, ps, e, r⟩ := s.tell (t := t)
  cases e
  refine r_ixT (SqT.of (s1 _ _ r.rules)) at_0 (k la H ?_)
  exact s.learn (k2 := tups g) (tups_sub.trans s1) (fun b n => tups_tup n) ⟨la, ps, rfl, tups_of r.lines, r.len, fun i p q => tups_of (r.pair i p q)⟩
theorem e_rul1 [t : Take P (.ref p) (RulX R) F] (k : Ent P (fun H => Q (bV R.boost) H)) : Ent P (fun H => rIxT K (.ref p) (.int 1) H Q) := fun H s => by
  obtain ⟨g, h, s1, s2, x, ra, la, ps, e, r⟩ := s.tell (t := t)
  cases e
  exact r_ixT (SqT.of (s1 _ _ r.rules)) at_1 (k H s)
theorem e_rul2 [t : Take P (.ref p) (RulX R) F] (k : Ent P (fun H => Q (.str (chS R.kept)) H)) : Ent P (fun H => rIxT K (.ref p) (.int 2) H Q) := fun H s => by
  obtain ⟨g, h, s1, s2, x, ra, la, ps, e, r⟩ := s.tell (t := t)
  cases e
  exact r_ixT (SqT.of (s1 _ _ r.rules)) at_2 (k H s)
instance sp_rul1 [t : Take P (.ref p) (RulX R) F] : Stp P (fun H => rIxT K (.ref p) (.int 1) H Q) P (fun H => Q (bV R.boost) H) := ⟨e_rul1⟩
instance sp_rul2 [t : Take P (.ref p) (RulX R) F] : Stp P (fun H => rIxT K (.ref p) (.int 2) H Q) P (fun H => Q (.str (chS R.kept)) H) := ⟨e_rul2⟩
theorem e_rls [t : Take P (.ref p) (RlsX R) F] (hl : l < R.lines.length) (k : ∀ q, Ent (At (.ref q) (KTup [.int (R.q l), .int (R.s l)]) :: P) (fun H => Q (.ref q) H)) : Ent P (fun H => rIxT K (.ref p) (.int (l : Nat)) H Q) := fun H s => by
  obtain ⟨g, h, s1, s2, x, la, ps, e, h1, h2, h3⟩ := s.tell (t := t)
  cases e
  have hl' : l < ps.length := by omega
  refine r_ixT (SqT.of (s1 _ _ h1)) (atI_nat (by rw [List.getElem?_map, List.getElem?_eq_getElem hl']; rfl)) (k _ H ?_)
  exact s.learn (k2 := tups g) (tups_sub.trans s1) (fun b n => tups_tup n) ⟨_, rfl, tups_of (h3 l _ (List.getElem?_eq_getElem hl'))⟩
theorem e_rls0 [t : Take P (.ref p) (RlsX R) F] (ok : R.Ok) (k : ∀ q, Ent (At (.ref q) (KTup [.int (R.q 0), .int (R.s 0)]) :: P) (fun H => Q (.ref q) H)) : Ent P (fun H => rIxT K (.ref p) (.int 0) H Q) := e_rls (l := 0) ok.one k
instance sp_lenRls [t : Take P (.ref p) (RlsX R) F] : Stp P (fun H => cLen K [.ref p] H Q) P (fun H => Q (.int R.lines.length) H) := ⟨fun e H s => by
  obtain ⟨g, h, s1, s2, x, la, ps, e', h1, h2, h3⟩ := s.tell (t := t)
  cases e'
  refine r_lenT (SqT.of (s1 _ _ h1)) ?_
  rw [List.length_map, h2]
  exact e H s⟩
end
/-! ### the box -/
def BoxX : Ty := fun v => ⟨fun _ h => ∃ p q, v = .ref p ∧ Box p q h, fun _ x => x⟩
theorem Box.foot {p q b : Addr} {H : Hp} (x : Box p q H) (h : BoxF p q b) : H b ≠ none := fun z => by
  obtain ⟨o, e, _⟩ := x.own h
  rw [z] at e; cases e
theorem Box.cut {p q : Addr} {H : Hp} (x : Box p q H) : Box p q (cutH (BoxF p q) H) := by
  obtain ⟨z, xs, h1, h2, h3⟩ := x.both
  exact ⟨x.ne, z, xs, by rw [cutH_in (.inl rfl)]; exact h1, by rw [cutH_in (.inr rfl)]; exact h2, h3⟩
theorem Sat.box {F : List As} {p : Addr} {H : Hp} (s : Sat (At (.ref p) BoxX :: F) H) : ∃ q, Box p q H ∧ ∀ H', Box p q H' → Frame (BoxF p q) H H' → Sat (At (.ref p) BoxX :: F) H' := by
  obtain ⟨k, h, s1, s2, ⟨p', q, e, B⟩, cl⟩ := s.open
  cases e
  refine ⟨q, B.same s2, fun H' B' f => cl _ _ _ H' (fun b w => B.foot w) (Step.self f) (fun b w xs e => ?_) fun k' _ _ => ⟨p, q, rfl, B'.cut⟩⟩
  obtain ⟨o, e1, n⟩ := B'.own w
  rw [e] at e1
  exact n xs (Option.some.inj e1).symm
/-! ### lines -/
def KdX (kd : Kd) (R : Rul) (S : LSt) : Ty := fun v => ⟨fun k h => ∃ g : Geo, v = .ref (g.adr .self) ∧ LR kd g S h ∧ (∃ la ps, RulAt k g.ra R la ps) ∧ R.Ok ∧ Wf R.lines.length [] S,
  fun s ⟨g, e, L, ⟨la, ps, r⟩, o, w⟩ => ⟨g, e, L, ⟨la, ps, r.same s⟩, o, w⟩⟩
abbrev LinX (a : Adr) (R : Rul) (S : LSt) : Ty := KdX (LD a) R S
theorem LR.foot {kd : Kd} {g : Geo} {S : LSt} {H : Hp} (h : LR kd g S H) {b : Addr} (w : Foot g S b) : H b ≠ none := fun z => by
  obtain ⟨o, e, _⟩ := h.owned w
  rw [z] at e; cases e
theorem LR.cut {kd : Kd} {g : Geo} {S : LSt} {H : Hp} (h : LR kd g S H) : LR kd g S (cutH (Foot g S) H) := h.keep fun b w => cutH_in w
theorem LR.notup {kd : Kd} {g : Geo} {S : LSt} {H : Hp} (h : LR kd g S H) {b : Addr} (w : Foot g S b) (xs : List V) : H b ≠ some (.tup xs) := fun e => by
  obtain ⟨o, e1, n⟩ := h.owned w
  rw [e] at e1
  exact n xs (Option.some.inj e1).symm
theorem Sat.kd {F : List As} {kd : Kd} {R : Rul} {S : LSt} {x : Addr} {H : Hp} (s : Sat (At (.ref x) (KdX kd R S) :: F) H) : ∃ g, x = g.adr .self ∧ LA kd (Foot g S) H g R S H ∧
    ∀ g' S' H', g'.adr .self = g.adr .self → LA kd (Foot g S) H g' R S' H' → Sat (At (.ref x) (KdX kd R S') :: F) H' := by
  obtain ⟨k, h, s1, s2, ⟨g, e, L, ⟨la, ps, r⟩, ok, w⟩, cl⟩ := s.open
  cases e
  refine ⟨g, rfl, ⟨(L.same s2).start, ⟨la, ps, r.same s1⟩, ok, w⟩, fun g' S' H' eg A => cl _ _ _ H' (fun b w => L.foot w) A.ls.st (fun b w xs => A.ls.lr.notup w xs) fun k' _ t => ?_⟩
  obtain ⟨la', ps', r'⟩ := A.rul
  exact ⟨g', by rw [eg], A.ls.lr.cut, ⟨la', ps', (RulAt.tups r').same t⟩, A.ok, A.wf⟩
/-- what is true of the lines -/
theorem Sat.kdOk {P F : List As} {kd : Kd} {R : Rul} {S : LSt} {v : V} {H : Hp} [t : Take P v (KdX kd R S) F] (s : Sat P H) : R.Ok ∧ Wf R.lines.length [] S := by
  obtain ⟨k, h, s1, s2, x, g, e, L, r, o, w⟩ := s.tell (t := t)
  exact ⟨o, w⟩
theorem e_kdOk {P F : List As} {kd : Kd} {R : Rul} {S : LSt} {v : V} {X : Hp → Prop} (t : Take P v (KdX kd R S) F) (k : R.Ok → Wf R.lines.length [] S → Ent P X) : Ent P X := fun H s => by
  obtain ⟨o, w⟩ := s.kdOk (t := t)
  exact k o w H s
/-- a method's name -/
class LnM (m : Str) : Prop where
  no : ∀ g z, (LF g z).lookup m = none
instance lnM_come : LnM "come" := ⟨fun _ _ => lk_LF_no (by decide +kernel) (by decide +kernel) (by decide +kernel) (by decide +kernel)⟩
instance lnM_go : LnM "go" := ⟨fun _ _ => lk_LF_no (by decide +kernel) (by decide +kernel) (by decide +kernel) (by decide +kernel)⟩
instance lnM_wait : LnM "wait" := ⟨fun _ _ => lk_LF_no (by decide +kernel) (by decide +kernel) (by decide +kernel) (by decide +kernel)⟩
instance lnM_wake : LnM "wake" := ⟨fun _ _ => lk_LF_no (by decide +kernel) (by decide +kernel) (by decide +kernel) (by decide +kernel)⟩
instance lnM_tick : LnM "tick" := ⟨fun _ _ => lk_LF_no (by decide +kernel) (by decide +kernel) (by decide +kernel) (by decide +kernel)⟩
instance lnM_lines : LnM "lines" := ⟨fun _ _ => lk_LF_no (by decide +kernel) (by decide +kernel) (by decide +kernel) (by decide +kernel)⟩
instance lnM_now : LnM "now" := ⟨fun _ _ => lk_LF_no (by decide +kernel) (by decide +kernel) (by decide +kernel) (by decide +kernel)⟩
instance lnM_card : LnM "card" := ⟨fun _ _ => lk_LF_no (by decide +kernel) (by decide +kernel) (by decide +kernel) (by decide +kernel)⟩
instance lnM_used : LnM "used" := ⟨fun _ _ => lk_LF_no (by decide +kernel) (by decide +kernel) (by decide +kernel) (by decide +kernel)⟩
instance lnM_tasks : LnM "tasks" := ⟨fun _ _ => lk_LF_no (by decide +kernel) (by decide +kernel) (by decide +kernel) (by decide +kernel)⟩
instance lnM_first : LnM "first" := ⟨fun _ _ => lk_LF_no (by decide +kernel) (by decide +kernel) (by decide +kernel) (by decide +kernel)⟩
instance lnM_run : LnM "run" := ⟨fun _ _ => lk_LF_no (by decide +kernel) (by decide +kernel) (by decide +kernel) (by decide +kernel)⟩
instance lnM_boost_now : LnM "boost_now" := ⟨fun _ _ => lk_LF_no (by decide +kernel) (by decide +kernel) (by decide +kernel) (by decide +kernel)⟩
section
variable {P F : List As} {K : PySem.W.Frag} {a : Adr} {σ : St} {Q : VK} {E : XK} {x p : Addr} {R : Rul} {S : LSt} {t : Int} {c : Card} {v : V}
instance sp_meth {m : Str} {sp : Sp} {dvs : List V} {ta : TA} [tk : Take P (.ref x) (LinX a R S) F] [lm : LnM m] : Stp P (fun H => kMeth a.Lines m sp dvs E σ ta (.ref x) H Q) P (fun H => ta σ H fun vs H2 => sp (.ref x :: (vs ++ dvs)) H2 Q E) := ⟨fun e H s => by
  obtain ⟨k, h, s1, s2, y, g, e', L, r⟩ := s.tell (t := tk)
  cases e'
  exact r_kMeth (s2 _ _ L.sf) (lm.no _ _) (e H s)⟩
theorem e_take {m : Int} [tk : Take P (.ref p) BoxX F] (m0 : 0 < m) (m1 : m ≤ 1000000000000000000) (k : ∀ r, 0 ≤ r → r < m → Ent (At (.ref p) BoxX :: F) (fun H => Q (.int r) H)) : Ent P (fun H => sp_law_take K a [.ref p, .int m] H Q E) := fun H s => by
  obtain ⟨q, B, cl⟩ := (s.imp tk.tk).box
  exact w_take B m0 m1 fun r H' r0 r1 B' f => k r r0 r1 H' (cl H' B' f)
theorem e_pick {n : Nat} {u v : V} (hv : σ[n]? = some (some (.ref p))) [tk : Take P (.ref p) BoxX F] (k : ∀ b : Bool, Ent (At (.ref p) BoxX :: F) (fun H => Q (if b then u else v) H)) :
    Ent P (fun H => kLst [u, v] H fun l H1 => tCall (sp_law_take K a) [] E0 (tCons (tVar n) (tCons (tC (.int 2)) tNil)) σ H1 fun y H2 => rIxL K l y H2 Q) := fun H s => by
  obtain ⟨q, B, cl⟩ := (s.imp tk.tk).box
  exact w_pick hv B fun b H' B' f => k b H' (cl H' B' f)
theorem e_come [tk : Take P (.ref x) (LinX a R S) F] (h : look S.cards t = none) (h1 : 0 ≤ t ∧ t ≤ 19) (k : Ent (At (.ref x) (LinX a R (S.come R t)) :: F) (fun H => Q .non H)) : Ent P (fun H => sp_Lines_come K a [.ref x, .int t] H Q E) := fun H s => by
  obtain ⟨g, rfl, A, cl⟩ := (s.imp tk.tk).kd
  exact sp2_mk ⟨g, R, S, t, rfl, rfl, A, h, h1.1, h1.2, fun g' H' e A' => k H' (cl g' _ H' e A')⟩
theorem e_go [tk : Take P (.ref x) (LinX a R S) F] (h : look S.cards t = some c) (k : Ent (At (.ref x) (LinX a R (S.go t)) :: F) (fun H => Q .non H)) : Ent P (fun H => sp_Lines_go K a [.ref x, .int t] H Q E) := fun H s => by
  obtain ⟨g, rfl, A, cl⟩ := (s.imp tk.tk).kd
  exact sp2_mk ⟨g, R, S, t, c, rfl, rfl, A, h, fun H' A' => k H' (cl g _ H' rfl A')⟩
theorem e_wait [tk : Take P (.ref x) (LinX a R S) F] (h : look S.cards t = some c) (h1 : c.rdy = true) (k : Ent (At (.ref x) (LinX a R (S.wait t)) :: F) (fun H => Q .non H)) : Ent P (fun H => sp_Lines_wait K a [.ref x, .int t] H Q E) := fun H s => by
  obtain ⟨g, rfl, A, cl⟩ := (s.imp tk.tk).kd
  exact sp2_mk ⟨g, R, S, t, c, rfl, rfl, A, h, h1, fun H' A' => k H' (cl g _ H' rfl A')⟩
theorem e_wake [tk : Take P (.ref x) (LinX a R S) F] (h : look S.cards t = some c) (h1 : c.rdy = false) (k : Ent (At (.ref x) (LinX a R (S.wake R t)) :: F) (fun H => Q .non H)) : Ent P (fun H => sp_Lines_wake K a [.ref x, .int t] H Q E) := fun H s => by
  obtain ⟨g, rfl, A, cl⟩ := (s.imp tk.tk).kd
  exact sp2_mk ⟨g, R, S, t, c, rfl, rfl, A, h, h1, fun H' A' => k H' (cl g _ H' rfl A')⟩
theorem e_tick [tk : Take P (.ref x) (LinX a R S) F] (k : Ent (At (.ref x) (LinX a R (S.tick R)) :: F) (fun H => Q (bV (S.boostNow R).first) H)) : Ent P (fun H => sp_Lines_tick K a [.ref x] H Q E) := fun H s => by
  obtain ⟨g, rfl, A, cl⟩ := (s.imp tk.tk).kd
  exact sp1_mk ⟨g, R, S, rfl, A, fun g' H' e A' => k H' (cl g' _ H' e A')⟩
theorem e_boost_now [tk : Take P (.ref x) (LinX a R S) F] (k : Ent (At (.ref x) (LinX a R (S.boostNow R)) :: F) (fun H => Q .non H)) : Ent P (fun H => sp_Lines_boost_now K a [.ref x] H Q E) := fun H s => by
  obtain ⟨g, rfl, A, cl⟩ := (s.imp tk.tk).kd
  exact sp1_mk ⟨g, R, S, rfl, A, fun g' H' e A' => k H' (cl g' _ H' e A')⟩
theorem e_run {m : Int} [tk : Take P (.ref x) (LinX a R S) F] (k0 : S.first = none → Ent (At (.ref x) (LinX a R (S.run R m)) :: F) (fun H => Q .non H))
    (k : ∀ t, S.first = some t → ∀ p, Ent (At (.ref p) (KTup [.int t, .int ((S.card t).line : Nat)]) :: At (.ref x) (LinX a R (S.run R m)) :: F) (fun H => Q (.ref p) H)) (ok : True) : Ent P (fun H => sp_Lines_run K a [.ref x, .int m] H Q E) := fun H s => by
  obtain ⟨g, rfl, A, cl⟩ := (s.imp tk.tk).kd
  refine sp2_mk ⟨g, R, S, m, rfl, rfl, A, fun e H' A' => k0 e H' (cl g _ H' rfl A'), fun t e p H' A' hp => k t e p H' ?_⟩
  exact (cl g _ H' rfl A').learn (k2 := tups H') tups_sub (fun b n => tups_tup n) ⟨p, rfl, tups_of hp⟩
theorem e_now [tk : Take P (.ref x) (LinX a R S) F] (k : Ent P (fun H => Q (.int S.time) H)) : Ent P (fun H => sp_Lines_now K a [.ref x] H Q E) := fun H s => by
  obtain ⟨g, rfl, A, cl⟩ := (s.imp tk.tk).kd
  exact sp1_mk ⟨g, S, rfl, A.ls.lr, k H s⟩
theorem e_card [tk : Take P (.ref x) (LinX a R S) F] (h : look S.cards t = some c) (k : ∀ p, Ent (At (.ref p) (KTup [.int c.line, .int c.q, .int c.sh, .bl c.rdy]) :: P) (fun H => Q (.ref p) H)) : Ent P (fun H => sp_Lines_card K a [.ref x, .int t] H Q E) := fun H s => by
  obtain ⟨g, rfl, A, cl⟩ := (s.imp tk.tk).kd
  have kr := A.wf.key t c h
  exact sp2_mk ⟨g, S, t, c, rfl, rfl, A.ls.lr, h, kr.1, kr.2.1, fun p np => k p _ (s.newK np ⟨p, rfl, upd_same⟩)⟩
theorem e_used [tk : Take P (.ref x) (LinX a R S) F] (h : look S.cards t = some c) (k : ∀ p, Ent (At (.ref p) (LstX (c.sp.map V.int)) :: P) (fun H => Q (.ref p) H)) : Ent P (fun H => sp_Lines_used K a [.ref x, .int t] H Q E) := fun H s => by
  obtain ⟨g, rfl, A, cl⟩ := (s.imp tk.tk).kd
  have kr := A.wf.key t c h
  exact sp2_mk ⟨g, S, t, c, rfl, rfl, A.ls.lr, h, kr.1, kr.2.1, fun p np => k p _ (s.new np ⟨p, rfl, upd_same⟩ fun _ e => by cases e)⟩
theorem e_first [tk : Take P (.ref x) (LinX a R S) F] (k : Ent P (fun H => Q (bV S.first) H)) : Ent P (fun H => sp_Lines_first K a [.ref x] H Q E) := fun H s => by
  obtain ⟨g, rfl, A, cl⟩ := (s.imp tk.tk).kd
  have h4 := A.ok.four
  have hl := A.wf.rl
  exact sp1_mk ⟨g, S, rfl, A.ls.lr, by omega, fun H' z => k H' (s.same z)⟩
/-- one new cell, all else as it was -/
theorem Sat.late {p : Addr} {o : HO} {H' : Hp} {P : List As} {H : Hp} (s : Sat P H) (n : H p = none) (z : Same H H') (h : H' p = some o) (no : ∀ xs, o ≠ .tup xs) : Sat (At (.ref p) (Cel o) :: P) H' := by
  refine s.add (hA := upd hnil p o) z (fun b u e => ?_) (fun b e => ?_) (noTup_one no) ⟨p, rfl, upd_same⟩
  · by_cases q : b = p
    · subst q; rw [upd_same] at e; rw [← e]; exact h
    · rw [upd_ne q] at e; cases e
  · by_cases q : b = p
    · rw [q]; exact n
    · rw [upd_ne q] at e; exact absurd rfl e
theorem e_tasks [tk : Take P (.ref x) (LinX a R S) F] (k : ∀ p, Ent (At (.ref p) (LstX ((tasksOf S).map V.int)) :: P) (fun H => Q (.ref p) H)) : Ent P (fun H => sp_Lines_tasks K a [.ref x] H Q E) := fun H s => by
  obtain ⟨g, rfl, A, cl⟩ := (s.imp tk.tk).kd
  exact sp1_mk ⟨g, S, rfl, A.ls.lr, fun p H' np z hp => k p H' (s.late np z hp fun _ e => by cases e)⟩
/-- a list of lists of numbers, known for good -/
def KRows (qs : List Addr) (xss : List (List Int)) : Ty := fun v => ⟨fun k _ => ∃ D, v = .ref D ∧ k D = some (.lst (qs.map V.ref)) ∧ qs.length = xss.length ∧ ∀ (i : Nat) (q : Addr) (xs : List Int), qs[i]? = some q → xss[i]? = some xs → k q = some (.lst (xs.map V.int)),
  fun s ⟨D, e, h1, h2, h3⟩ => ⟨D, e, s _ _ h1, h2, fun i q xs e1 e2 => s _ _ (h3 i q xs e1 e2)⟩⟩
instance pers_rows {qs : List Addr} {xss : List (List Int)} : Pers (KRows qs xss) := ⟨fun _ _ _ x => x⟩
instance lk_rows {qs : List Addr} {xss : List (List Int)} : Lk (KRows qs xss) (.lst (qs.map V.ref)) := ⟨fun v k h ⟨D, e, h1, _⟩ => ⟨D, e, .inr h1⟩⟩
theorem e_row {qs : List Addr} {xss : List (List Int)} {D q : Addr} {i : Nat} {xs : List Int} {X : Hp → Prop} (tk : Take P (.ref D) (KRows qs xss) F) (hq : qs[i]? = some q) (hx : xss[i]? = some xs) (k : Ent (At (.ref q) (KLst (xs.map V.int)) :: P) X) : Ent P X := fun H s =>
  k H (s.know (t := tk) fun g h ⟨D, e, h1, h2, h3⟩ => ⟨q, rfl, h3 i q xs hq hx⟩)
/-- new cells, known for good -/
theorem Sat.addK {A : As} {P : List As} {H H' kA : Hp} (s : Sat P H) (z : Same H H') (sA : Same kA H') (fr : ∀ b, kA b ≠ none → H b = none) (hp : A.p kA hnil) : Sat (A :: P) H' := by
  obtain ⟨k, h, s1, s2, x, n, y⟩ := s
  have ak : Apart k kA := fun b => by
    cases e : kA b with
    | none => exact .inr rfl
    | some o => exact .inl (s1.free (fr b (by rw [e]; simp)))
  have ah : Apart kA h := fun b => by
    cases e : kA b with
    | none => exact .inl rfl
    | some o => exact .inr (s2.free (fr b (by rw [e]; simp)))
  exact ⟨hor k kA, h, hor_sub (s1.trans z) sA, s2.trans z, hor_apart x ah, n, hnil, h, same_nil, Same.refl _, apart_nil, A.mono (same_hor_r ak) hp, y.mono same_hor_l⟩
theorem LSt.rows_row {S : LSt} {i : Nat} {xs : List Int} (h : S.rows[i]? = some xs) : S.row i = xs := LSt.row_some h
theorem e_lines [tk : Take P (.ref x) (LinX a R S) F] (k : ∀ D qs, qs.length = S.rows.length → Ent (At (.ref D) (KRows qs S.rows) :: P) (fun H => Q (.ref D) H)) : Ent P (fun H => sp_Lines_lines K a [.ref x] H Q E) := fun H s => by
  obtain ⟨g, rfl, A, cl⟩ := (s.imp tk.tk).kd
  have h4 := A.ok.four
  have hl := A.wf.rl
  refine sp1_mk ⟨g, S, rfl, A.ls.lr, by omega, fun D qs H' nD z hD hq hr => k D qs hq H' ?_⟩
  refine s.addK (kA := cutH (fun b => b = D ∨ b ∈ qs) H') z cutH_sub (fun b e => ?_) ⟨D, rfl, by rw [cutH_in (.inl rfl)]; exact hD, hq, fun i q xs e1 e2 => ?_⟩
  · rcases cutH_ne e with e | e
    · rw [e]; exact nD
    · obtain ⟨j, hj⟩ := List.mem_iff_getElem?.mp e
      exact (hr j b hj).1
  · rw [cutH_in (.inr (List.mem_iff_getElem?.mpr ⟨i, e1⟩)), (hr i q e1).2.2, LSt.rows_row e2]
theorem sat_box {q : Addr} {H : Hp} (B : Box p q H) : Sat [At (.ref p) BoxX] H := by
  have n : NoTup (cutH (BoxF p q) H) := fun b xs e => by
    by_cases w : BoxF p q b
    · rw [cutH_in w] at e
      obtain ⟨o, e1, n⟩ := B.own w
      rw [e] at e1
      exact n xs (Option.some.inj e1).symm
    · rw [cutH_out w] at e; cases e
  exact ⟨hnil, cutH (BoxF p q) H, same_nil, cutH_sub, apart_nil, n, cutH (BoxF p q) H, hnil, Same.refl _, same_nil, fun _ => .inr rfl, ⟨p, q, rfl, B.cut⟩, trivial⟩
theorem e_rules [tk : Take P (.ref p) BoxX F] (k : ∀ ra R, R.Ok → Ent (At (.ref ra) (RulX R) :: At (.ref p) BoxX :: F) (fun H => Q (.ref ra) H)) : Ent P (fun H => sp_law_rules K a [.ref p] H Q E) := fun H s => by
  obtain ⟨q, B, cl⟩ := (s.imp tk.tk).box
  exact sp1_mk ⟨p, q, rfl, B, fun ra R la ps H' r ok B' f => k ra R ok H' ((cl H' B' f).learn (k2 := tups H') tups_sub (fun b n => tups_tup n) ⟨ra, la, ps, rfl, r.tups⟩)⟩
theorem e_make {ra : Addr} [tk : Take P (.ref ra) (RulX R) F] (ok : R.Ok) (k : ∀ x, Ent (At (.ref x) (LinX a R (LSt.begin R)) :: P) (fun H => Q (.ref x) H)) : Ent P (fun H => kMake a.Lines (sp_Lines__init K a) E0 [.ref ra] H Q) := fun H s x dx nx ndx nxd => by
  obtain ⟨g, h, s1, s2, ap, ra', la, ps, e, r⟩ := s.tell (t := tk)
  cases e
  have hR := r.same s1
  have nrx : ∀ b o, H b = some o → upd (upd H dx (.own x)) x (.ins a.Lines dx []) b = some o := fun b o e => upd_old (upd_old e ndx) (by rw [upd_ne (Ne.symm nxd)]; exact nx)
  refine sp2_mk ⟨x, dx, ra, R, la, ps, rfl, rfl, upd_same, hR.same nrx, ok, fun g H4 eg era L old new => ⟨rfl, k x H4 ?_⟩⟩
  have s4 : Same H H4 := fun b o e => old b o (nrx b o e) fun z => by rw [z, nx] at e; cases e
  have new4 : ∀ b, Foot g (LSt.begin R) b → H b = none := fun b hb => by
    rcases new b hb with z | z
    · exact z ▸ nx
    · cases e : H b with
      | none => rfl
      | some o => rw [nrx b o e] at z; cases z
  refine s.add s4 (hA := cutH (Foot g (LSt.begin R)) H4) cutH_sub (fun b e => new4 b (cutH_ne e)) (fun b xs e => ?_) ⟨g, by rw [eg], L.cut, ⟨la, ps, by rw [era]; exact (hR.same s4).tups⟩, ok, Wf.begin R⟩
  by_cases w : Foot g (LSt.begin R) b
  · rw [cutH_in w] at e; exact L.notup w xs e
  · rw [cutH_out w] at e; cases e
end
/-! ### data seen -/
class HasD (K : PySem.W.Frag) (P : List As) (v : V) (d : PyData) : Prop where
  has : ∀ H, Sat P H → Dp K H v d
class HasDs (K : PySem.W.Frag) (P : List As) (vs : List V) (ds : List PyData) : Prop where
  has : ∀ H, Sat P H → DpAll K H vs ds
def bD : Option Int → PyData
  | none => .none
  | some i => .int i
section
variable {K : PySem.W.Frag} {P F : List As} {v : V} {d : PyData} {vs : List V} {ds : List PyData} {p : Addr} {ns : List Int} {Q : VK} {E : XK} {x y : V} {a : Adr}
instance has_int {i : Int} : HasD K P (.int i) (.int i) := ⟨fun _ _ => .int i⟩
instance has_bl {i : Bool} : HasD K P (.bl i) (.bool i) := ⟨fun _ _ => .bl i⟩
instance has_str {i : Str} : HasD K P (.str i) (.str i) := ⟨fun _ _ => .str i⟩
instance has_non : HasD K P .non .none := ⟨fun _ _ => .non⟩
instance has_bV {o : Option Int} : HasD K P (bV o) (bD o) := ⟨fun _ _ => by cases o with | none => exact .non | some i => exact .int i⟩
instance has_nil : HasDs K P [] [] := ⟨fun _ _ => .nil⟩
instance has_cons [h : HasD K P v d] [t : HasDs K P vs ds] : HasDs K P (v :: vs) (d :: ds) := ⟨fun H s => .cons (h.has H s) (t.has H s)⟩
instance has_ints : HasDs K P (ns.map V.int) (ns.map .int) := ⟨fun _ _ => dpAll_map fun i _ => .int i⟩
instance has_lst [s : Sees P p (.lst vs)] [t : HasDs K P vs ds] : HasD K P (.ref p) (.list ds) := ⟨fun H h => .lst (SqL.of (s.sees H h)) (t.has H h)⟩
instance (priority := 900) has_tup [s : Sees P p (.tup vs)] [t : HasDs K P vs ds] : HasD K P (.ref p) (.tuple ds) := ⟨fun H h => .tup (SqT.of (s.sees H h)) (t.has H h)⟩
instance has_dat [t : Take P v (Dat K d) F] : HasD K P v d := ⟨fun H s => by
  obtain ⟨k, h, s1, s2, x, q⟩ := s.tell (t := t)
  exact dp_sub s1 q⟩
instance pers_dat : Pers (Dat K d) := ⟨fun _ _ _ x => x⟩
instance (priority := 1100) has_rows {qs : List Addr} {xss : List (List Int)} [t : Take P (.ref p) (KRows qs xss) F] : HasD K P (.ref p) (.list (xss.map fun xs => .list (xs.map .int))) := ⟨fun H s => by
  obtain ⟨k, h, s1, s2, x, D, e, h1, h2, h3⟩ := s.tell (t := t)
  cases e
  refine .lst (SqL.of (s1 _ _ h1)) ?_
  have h2' := h2
  have : ∀ (qs : List Addr) (xss : List (List Int)), qs.length = xss.length → (∀ (i : Nat) (q : Addr) (xs : List Int), qs[i]? = some q → xss[i]? = some xs → k q = some (.lst (xs.map V.int))) → DpAll K H (qs.map V.ref) (xss.map fun xs => .list (xs.map .int)) := by
    intro qs
    induction qs with
    | nil => intro xss hl _; cases xss with
      | nil => exact .nil
      | cons _ _ => cases hl
    | cons q qs ih =>
      intro xss hl hh
      cases xss with
      | nil => cases hl
      | cons xs xss => exact .cons (dp_ints (SqL.of (s1 _ _ (hh 0 q xs rfl rfl)))) (ih xss (by simpa using hl) fun i q xs e1 e2 => hh (i + 1) q xs e1 e2)
  exact this qs xss h2 h3⟩
theorem e_eqD (d e : PyData) [h1 : HasD K P x d] [h2 : HasD K P y e] (s1 : Sh 60 d) (s2 : Sh 60 e) (k : Ent P (fun H => Q (.bl (PyData.eqv d e)) H)) : Ent P (fun H => rEqD K x y H Q) := fun H s => r_eqD (h1.has H s) (h2.has H s) (s1.ok (by decide)) (s2.ok (by decide)) (k H s)
theorem e_neD (d e : PyData) [h1 : HasD K P x d] [h2 : HasD K P y e] (s1 : Sh 60 d) (s2 : Sh 60 e) (k : Ent P (fun H => Q (.bl (!PyData.eqv d e)) H)) : Ent P (fun H => rNeD K x y H Q) := fun H s => r_neD (h1.has H s) (h2.has H s) (s1.ok (by decide)) (s2.ok (by decide)) (k H s)
end
end Qn

/-! M1: what each operation on the lines does, by task and by line. -/
namespace Qn
open PySem L2
section
variable {R : Rul} {S : LSt} {n : Nat} {t u : Int} {c : Card} {l j : Nat} {m : Int}
theorem row_out (h : S.rows.length ≤ l) : S.row l = [] := by unfold LSt.row; rw [List.getD_eq_getElem?_getD, List.getElem?_eq_none h]; rfl
theorem look_ready (w : Wf n [] S) (e : look S.cards t = some c) : c.rdy = true ↔ t ∈ S.row c.line := by
  rw [w.mem]
  constructor
  · intro r; exact ⟨by simp, c, e, r, rfl⟩
  · rintro ⟨_, c', e', r, _⟩
    rw [e] at e'; rw [Option.some.inj e']; exact r
theorem erase_row (w : Wf n [] S) (e : look S.cards t = some c) (h : ¬ (c.rdy = true ∧ j = c.line)) : (S.row j).erase t = S.row j :=
  List.erase_of_not_mem fun z => by
    obtain ⟨_, c', e', r, q⟩ := (w.mem j t).mp z
    rw [e] at e'
    have := Option.some.inj e'
    subst this
    exact h ⟨r, q.symm⟩
theorem row_lay : (S.lay R t l).row j = if j = l ∧ l < S.rows.length then S.row j ++ [t] else S.row j := by
  unfold LSt.lay
  rw [LSt.row_upR]
  show (if l = j ∧ l < S.rows.length then S.row j ++ [t] else S.row j) = _
  by_cases q : l = j ∧ l < S.rows.length
  · rw [if_pos q, if_pos ⟨q.1.symm, q.2⟩]
  · rw [if_neg q, if_neg fun z => q ⟨z.1.symm, z.2⟩]
theorem len_lay : (S.lay R t l).rows.length = S.rows.length := LSt.rows_upR
/-! come -/
theorem look_come (e : look S.cards t = none) : look (S.come R t).cards u = if u = t then some ⟨0, R.q 0, R.s 0, true, List.replicate S.rows.length 0⟩ else look S.cards u := by
  unfold LSt.come
  rw [look_lay]
  show (if u = t then (look (S.cards ++ [(t, LSt.fresh R S.rows.length)]) u).map _ else look (S.cards ++ [(t, LSt.fresh R S.rows.length)]) u) = _
  rw [look_snoc e]
  by_cases q : u = t
  · rw [if_pos q, if_pos q, if_pos q]; rfl
  · rw [if_neg q, if_neg q, if_neg q]
theorem row_come (hn : 0 < S.rows.length) : (S.come R t).row j = if j = 0 then S.row 0 ++ [t] else S.row j := by
  unfold LSt.come
  rw [row_lay]
  show (if j = 0 ∧ 0 < S.rows.length then S.row j ++ [t] else S.row j) = _
  by_cases q : j = 0
  · rw [if_pos ⟨q, hn⟩, if_pos q, q]
  · rw [if_neg fun z => q z.1, if_neg q]
theorem len_come : (S.come R t).rows.length = S.rows.length := by unfold LSt.come; rw [len_lay]
theorem time_come : (S.come R t).time = S.time := rfl
/-! go -/
theorem look_go : look (S.go t).cards u = if u = t then none else look S.cards u := by
  unfold LSt.go
  split
  · exact look_drop
  · exact look_drop
theorem row_go (w : Wf n [] S) (e : look S.cards t = some c) : (S.go t).row j = (S.row j).erase t := by
  unfold LSt.go
  rw [LSt.card_of e]
  have hl : c.line < S.rows.length := by rw [w.rl]; exact (w.key t c e).2.2.1
  by_cases r : c.rdy = true
  · rw [if_pos r, LSt.row_upR]
    show (if c.line = j ∧ c.line < S.rows.length then (S.row j).erase t else S.row j) = _
    by_cases q : c.line = j
    · rw [if_pos ⟨q, hl⟩]
    · rw [if_neg fun z => q z.1, erase_row w e fun z => q z.2.symm]
  · rw [if_neg r, erase_row w e fun z => r z.1]; rfl
theorem len_go : (S.go t).rows.length = S.rows.length := by
  unfold LSt.go
  split
  · exact LSt.rows_upR
  · rfl
theorem time_go : (S.go t).time = S.time := by
  unfold LSt.go
  split <;> rfl
/-! wait -/
theorem look_wait : look (S.wait t).cards u = if u = t then (look S.cards u).map (fun c => { c with rdy := false }) else look S.cards u := look_upC (f := fun c => { c with rdy := false })
theorem row_wait (w : Wf n [] S) (e : look S.cards t = some c) : (S.wait t).row j = (S.row j).erase t := by
  unfold LSt.wait
  rw [LSt.card_of e, LSt.row_upR]
  have hl : c.line < S.rows.length := by rw [w.rl]; exact (w.key t c e).2.2.1
  show (if c.line = j ∧ c.line < S.rows.length then (S.row j).erase t else S.row j) = _
  by_cases q : c.line = j
  · rw [if_pos ⟨q, hl⟩]
  · rw [if_neg fun z => q z.1, erase_row w e fun z => q z.2.symm]
theorem len_wait : (S.wait t).rows.length = S.rows.length := LSt.rows_upR
theorem time_wait : (S.wait t).time = S.time := rfl
/-! wake -/
theorem look_wake (e : look S.cards t = some c) : look (S.wake R t).cards u = if u = t then some { c with rdy := true, sh := if R.kept then c.sh else R.s c.line, q := R.q c.line } else look S.cards u := by
  unfold LSt.wake
  rw [LSt.card_of e, look_lay, look_upC]
  by_cases q : u = t
  · rw [if_pos q, if_pos q, if_pos q, q, e]; rfl
  · rw [if_neg q, if_neg q, if_neg q]
theorem row_wake (w : Wf n [] S) (e : look S.cards t = some c) : (S.wake R t).row j = if j = c.line then S.row j ++ [t] else S.row j := by
  unfold LSt.wake
  rw [LSt.card_of e, row_lay]
  have hl : c.line < S.rows.length := by rw [w.rl]; exact (w.key t c e).2.2.1
  show (if j = c.line ∧ c.line < S.rows.length then S.row j ++ [t] else S.row j) = _
  by_cases q : j = c.line
  · rw [if_pos ⟨q, hl⟩, if_pos q]
  · rw [if_neg fun z => q z.1, if_neg q]
theorem len_wake : (S.wake R t).rows.length = S.rows.length := by unfold LSt.wake; rw [len_lay]; rfl
theorem time_wake : (S.wake R t).time = S.time := rfl
/-! all laid at line 0 -/
theorem look_lays : ∀ {ts : List Int} {S : LSt}, look (ts.foldl (fun S t => LSt.lay R S t 0) S).cards u = (look S.cards u).map fun c => if u ∈ ts then { c with line := 0, q := R.q 0 } else c
  | [], S => by simp
  | t :: r, S => by
    rw [List.foldl_cons, look_lays, look_lay]
    by_cases q : u = t
    · subst q
      rw [if_pos rfl]
      cases look S.cards u with
      | none => rfl
      | some c => by_cases h : u ∈ r <;> simp [h]
    · rw [if_neg q]
      cases look S.cards u with
      | none => rfl
      | some c => simp [q]
theorem row_lays : ∀ {ts : List Int} {S : LSt}, 0 < S.rows.length → (ts.foldl (fun S t => LSt.lay R S t 0) S).row j = if j = 0 then S.row 0 ++ ts else S.row j
  | [], S, _ => by by_cases q : j = 0 <;> simp [q]
  | t :: r, S, h => by
    rw [List.foldl_cons, row_lays (by rw [len_lay]; exact h), row_lay, row_lay]
    by_cases q : j = 0
    · rw [if_pos q, if_pos q, if_pos ⟨rfl, h⟩]; simp
    · rw [if_neg q, if_neg q, if_neg fun z => q z.1]
theorem len_lays : ∀ {ts : List Int} {S : LSt}, (ts.foldl (fun S t => LSt.lay R S t 0) S).rows.length = S.rows.length
  | [], S => rfl
  | t :: r, S => by rw [List.foldl_cons, len_lays, len_lay]
theorem time_lays : ∀ {ts : List Int} {S : LSt}, (ts.foldl (fun S t => LSt.lay R S t 0) S).time = S.time
  | [], S => rfl
  | t :: r, S => by rw [List.foldl_cons, time_lays]; rfl
/-! a boost -/
def bst (R : Rul) (S : LSt) (u : Int) (c : Card) : Card := { c with line := 0, sh := R.s 0, q := if u ∈ S.later then R.q 0 else c.q }
theorem look_boosted : look (S.boosted R).cards u = (look S.cards u).map (bst R S u) := by
  unfold LSt.boosted
  rw [look_lays]
  have e1 : look (S.clear R).cards u = (look S.cards u).map fun c => { c with line := 0, sh := R.s 0 } := look_map (f := fun c => { c with line := 0, sh := R.s 0 })
  rw [e1]
  cases look S.cards u with
  | none => rfl
  | some c =>
    show some (if u ∈ (S.rows.drop 1).flatten then _ else _) = some (bst R S u c)
    unfold bst LSt.later
    by_cases h : u ∈ (S.rows.drop 1).flatten
    · rw [if_pos h, if_pos h]
    · rw [if_neg h, if_neg h]
theorem len_clear (hn : 0 < S.rows.length) : (S.clear R).rows.length = S.rows.length := by unfold LSt.clear; simp; omega
theorem row_boosted (hn : 0 < S.rows.length) : (S.boosted R).row j = if j = 0 then S.row 0 ++ S.later else [] := by
  unfold LSt.boosted
  rw [row_lays (by rw [len_clear hn]; exact hn), row_clear hn, row_clear hn]
  by_cases q : j = 0
  · rw [if_pos q, if_pos q, if_pos rfl]; rfl
  · rw [if_neg q, if_neg q, if_neg q]
theorem len_boosted (hn : 0 < S.rows.length) : (S.boosted R).rows.length = S.rows.length := by unfold LSt.boosted; rw [len_lays, len_clear hn]
theorem time_boosted : (S.boosted R).time = S.time := by unfold LSt.boosted; rw [time_lays]; rfl
theorem later_out (w : Wf n [] S) (e : look S.cards t = some c) : t ∈ S.later ↔ c.rdy = true ∧ c.line ≠ 0 := by
  rw [mem_later]
  constructor
  · rintro ⟨l, h1, h2⟩
    obtain ⟨_, c', e', r, q⟩ := (w.mem l t).mp h2
    rw [e] at e'
    have := Option.some.inj e'
    subst this
    exact ⟨r, by omega⟩
  · rintro ⟨r, h⟩
    exact ⟨c.line, by omega, (look_ready w e).mp r⟩
theorem cards_upR {f : List Int → List Int} : (S.upR l f).cards = S.cards := rfl
/-! a charge -/
/-- the line to which it moves -/
def mov (n : Nat) (c : Card) (m : Int) : Option Nat :=
  if c.sh - m = 0 then (if c.line < n - 1 ∨ c.q - m = 0 then some (min (n - 1) (c.line + 1)) else none)
  else if c.q - m = 0 then some c.line else none
def chg (R : Rul) (n : Nat) (c : Card) (m : Int) : Card :=
  ⟨(mov n c m).getD c.line, match mov n c m with | some l => R.q l | none => c.q - m, if c.sh - m = 0 then R.s (min (n - 1) (c.line + 1)) else c.sh - m, c.rdy, c.sp.modify c.line (· + m)⟩
theorem charge_all (w : Wf n [] S) (e : look S.cards t = some c) (rd : c.rdy = true) :
    (∀ u, look (S.charge R t m).cards u = if u = t then some (chg R n c m) else look S.cards u) ∧
    (∀ j, (S.charge R t m).row j = match mov n c m with | none => S.row j | some l => if j = l then (S.row j).erase t ++ [t] else (S.row j).erase t) ∧
    (S.charge R t m).rows.length = S.rows.length ∧ (S.charge R t m).time = S.time := by
  have hl : c.line < S.rows.length := by rw [w.rl]; exact (w.key t c e).2.2.1
  have hr := w.rl
  have er : ∀ j, j ≠ c.line → (S.row j).erase t = S.row j := fun j h => erase_row w e fun z => h z.2
  unfold LSt.charge chg mov
  rw [LSt.card_of e, hr]
  dsimp only
  by_cases h1 : c.sh - m = 0
  · rw [if_pos h1]
    by_cases h2 : c.line < n - 1 ∨ c.q - m = 0
    · rw [if_pos h2]
      have hm : min (n - 1) (c.line + 1) < n := by omega
      refine ⟨fun u => ?_, fun j => ?_, by rw [len_lay]; exact LSt.rows_upR.trans hr, rfl⟩
      · rw [look_lay]
        rw [cards_upR, look_upC, look_upC]
        by_cases q : u = t
        · simp only [if_pos q]; rw [q, e]; simp only [Option.map_some, if_pos h1, if_pos h2, Option.getD_some]
        · simp only [if_neg q]
      · rw [row_lay, LSt.row_upR]
        show (if j = min (n - 1) (c.line + 1) ∧ min (n - 1) (c.line + 1) < (((S.upC t _).upC t _).upR c.line _).rows.length then (if c.line = j ∧ c.line < S.rows.length then (S.row j).erase t else S.row j) ++ [t] else (if c.line = j ∧ c.line < S.rows.length then (S.row j).erase t else S.row j)) = _
        rw [LSt.rows_upR]
        have e2 : (if c.line = j ∧ c.line < S.rows.length then (S.row j).erase t else S.row j) = (S.row j).erase t := by
          by_cases q : c.line = j
          · rw [if_pos ⟨q, hl⟩]
          · rw [if_neg fun z => q z.1, er j fun z => q z.symm]
        rw [e2]
        simp only [if_pos h1, if_pos h2]
        show (if j = min (n - 1) (c.line + 1) ∧ min (n - 1) (c.line + 1) < S.rows.length then _ else _) = _
        rw [hr]
        by_cases q : j = min (n - 1) (c.line + 1)
        · rw [if_pos ⟨q, hm⟩, if_pos q]
        · rw [if_neg fun z => q z.1, if_neg q]
    · rw [if_neg h2]
      refine ⟨fun u => ?_, fun j => ?_, hr, rfl⟩
      · rw [look_upC, look_upC]
        by_cases q : u = t
        · simp only [if_pos q]; rw [q, e]; simp only [Option.map_some, if_pos h1, if_neg h2, Option.getD_none]
        · simp only [if_neg q]
      · simp only [if_pos h1, if_neg h2]; rfl
  · rw [if_neg h1]
    by_cases h2 : c.q - m = 0
    · rw [if_pos h2]
      refine ⟨fun u => ?_, fun j => ?_, by rw [len_lay]; exact LSt.rows_upR.trans hr, rfl⟩
      · rw [look_lay]
        rw [cards_upR, look_upC]
        by_cases q : u = t
        · simp only [if_pos q]; rw [q, e]; simp only [Option.map_some, if_neg h1, if_pos h2, Option.getD_some]
        · simp only [if_neg q]
      · rw [row_lay, LSt.row_upR]
        show (if j = c.line ∧ c.line < ((S.upC t _).upR c.line _).rows.length then (if c.line = j ∧ c.line < S.rows.length then (S.row j).erase t else S.row j) ++ [t] else (if c.line = j ∧ c.line < S.rows.length then (S.row j).erase t else S.row j)) = _
        rw [LSt.rows_upR]
        simp only [if_neg h1, if_pos h2]
        show (if j = c.line ∧ c.line < S.rows.length then _ else _) = _
        by_cases q : j = c.line
        · rw [if_pos ⟨q, hl⟩, if_pos q, if_pos ⟨q.symm, hl⟩]
        · rw [if_neg fun z => q z.1, if_neg q, if_neg fun z => q z.1.symm, er j q]
    · rw [if_neg h2]
      refine ⟨fun u => ?_, fun j => ?_, hr, rfl⟩
      · rw [look_upC]
        by_cases q : u = t
        · simp only [if_pos q]; rw [q, e]; simp only [Option.map_some, if_neg h1, if_neg h2, Option.getD_none]
        · simp only [if_neg q]
      · simp only [if_neg h1, if_neg h2]; rfl
/-! a moment -/
theorem Wf.boostNow' (w : Wf n [] S) (hn : 0 < n) : Wf n [] (S.boostNow R) := by
  unfold LSt.boostNow
  split
  · exact w.boosted hn
  · exact w
theorem Wf.tick (w : Wf n [] S) (hn : 0 < n) : Wf n [] (S.tick R) := (w.boostNow' hn).run hn
theorem time_boostNow : (S.boostNow R).time = S.time := by
  unfold LSt.boostNow
  split
  · exact time_boosted
  · rfl
theorem len_boostNow (hn : 0 < S.rows.length) : (S.boostNow R).rows.length = S.rows.length := by
  unfold LSt.boostNow
  split
  · exact len_boosted hn
  · rfl
theorem first_time {z : Int} : ({ S with time := z } : LSt).first = S.first := rfl
theorem run_none (e : S.first = none) : S.run R m = { S with time := S.time + m } := by
  unfold LSt.run
  rw [first_time, e]
theorem run_some (w : Wf n [] S) (e : S.first = some t) : ∃ c, look S.cards t = some c ∧ c.rdy = true ∧ t ∈ S.row c.line ∧ (∀ i, i < c.line → S.row i = []) ∧ (S.row c.line).head? = some t ∧
    (∀ u, look (S.run R m).cards u = if u = t then some (chg R n c m) else look S.cards u) ∧
    (∀ j, (S.run R m).row j = match mov n c m with | none => S.row j | some l => if j = l then (S.row j).erase t ++ [t] else (S.row j).erase t) ∧
    (S.run R m).rows.length = S.rows.length ∧ (S.run R m).time = S.time + m := by
  obtain ⟨c, j, e1, r, rfl, h1, h2, h3, h4⟩ := w.first e
  have w' := w.setT (z := S.time + m)
  obtain ⟨a1, a2, a3, a4⟩ := charge_all (R := R) (m := m) w' (t := t) (c := c) e1 r
  have e2 : S.run R m = LSt.charge R { S with time := S.time + m } t m := by
    unfold LSt.run
    rw [first_time, e]
  refine ⟨c, e1, r, h1, fun i hi => ?_, h4, fun u => by rw [e2]; exact a1 u, fun j => by rw [e2]; exact a2 j, by rw [e2]; exact a3, by rw [e2]; exact a4⟩
  unfold LSt.rdyIx at h3
  have hh := List.head?_filter.symm.trans h3
  have := (List.find?_range_eq_some (n := S.rows.length) (i := c.line) (p := fun j => !(S.row j).isEmpty)).mp hh
  have := this.2.2 i hi
  simpa using this
theorem time_run : (S.run R m).time = S.time + m := by
  unfold LSt.run
  cases e : ({ S with time := S.time + m } : LSt).first with
  | none => rfl
  | some t =>
    show (LSt.charge R _ t m).time = _
    unfold LSt.charge
    dsimp only
    split
    · split <;> rfl
    · split <;> rfl
theorem time_tick : (S.tick R).time = S.time + 1 := by unfold LSt.tick; rw [time_run, time_boostNow]
theorem first_none : S.first = none ↔ ∀ j, S.row j = [] := by
  have key : S.first = none ↔ S.rdyIx = [] := by
    unfold LSt.first
    cases S.rdyIx <;> simp
  rw [key]
  unfold LSt.rdyIx
  rw [List.filter_eq_nil_iff]
  constructor
  · intro h j
    by_cases hj : j < S.rows.length
    · have := h j (List.mem_range.mpr hj)
      simpa using this
    · exact row_out (by omega)
  · intro h j _
    simp [h j]
end
end Qn

/-! M2: deeds; bounds of cards; charges kept. -/
namespace Qn
open PySem L2
/-- what is done: the lines behind it, who ran last -/
inductive Deed (R : Rul) (S : LSt) : Option Int → LSt → Option Int → Prop
  | tick (l : Option Int) : Deed R S l (S.tick R) (S.boostNow R).first
  | wait (t : Int) (c : Card) : look S.cards t = some c → c.rdy = true → Deed R S (some t) (S.wait t) (some t)
  | come (l : Option Int) (t : Int) : look S.cards t = none → 0 ≤ t → t ≤ 19 → Deed R S l (S.come R t) l
  | wake (l : Option Int) (t : Int) (c : Card) : look S.cards t = some c → c.rdy = false → Deed R S l (S.wake R t) l
  | go (l : Option Int) (t : Int) (c : Card) : look S.cards t = some c → Deed R S l (S.go t) l
  | none (l : Option Int) : Deed R S l S l
structure Bd (R : Rul) (S : LSt) : Prop where
  sh : ∀ t c, look S.cards t = some c → 1 ≤ c.sh ∧ c.sh ≤ R.s c.line ∧ ∀ x ∈ c.sp, 0 ≤ x
  q : ∀ t c, look S.cards t = some c → c.rdy = true → 1 ≤ c.q ∧ c.q ≤ R.q c.line
section
variable {R : Rul} {S S' : LSt} {n : Nat} {t u : Int} {c : Card} {l j : Nat} {m : Int} {p p' : Option Int}
theorem Rul.Ok.at' (ok : R.Ok) (h : l < R.lines.length) : 1 ≤ R.q l ∧ R.q l ≤ 8 ∧ 1 ≤ R.s l ∧ R.q l ≤ R.s l ∧ R.s l ≤ 40 := by
  have := ok.at h
  omega
theorem Bd.empty (h : S.cards = []) : Bd R S := ⟨fun t c e => (by rw [h] at e; cases e), fun t c e => (by rw [h] at e; cases e)⟩
theorem mov_lt (hl : c.line < n) (h : mov n c m = some l) : l < n ∧ (l = c.line ∨ l = c.line + 1) := by
  unfold mov at h
  split at h
  · split at h
    · have := Option.some.inj h; omega
    · cases h
  · split at h
    · have := Option.some.inj h; omega
    · cases h
/-- what a charge leaves of a card within its bounds, at one moment -/
theorem chg_one (ok : R.Ok) (hn : n = R.lines.length) (hl : c.line < n) (hq : 1 ≤ c.q ∧ c.q ≤ R.q c.line) (hs : 1 ≤ c.sh ∧ c.sh ≤ R.s c.line) :
    (chg R n c 1).line < n ∧ 1 ≤ (chg R n c 1).q ∧ (chg R n c 1).q ≤ R.q (chg R n c 1).line ∧ 1 ≤ (chg R n c 1).sh ∧ (chg R n c 1).sh ≤ R.s (chg R n c 1).line := by
  subst hn
  have b0 := ok.at' hl
  have b1 := ok.at' (l := min (R.lines.length - 1) (c.line + 1)) (by omega)
  unfold chg mov
  dsimp only
  by_cases h1 : c.sh - 1 = 0
  · rw [if_pos h1, if_pos h1]
    by_cases h2 : c.line < R.lines.length - 1 ∨ c.q - 1 = 0
    · rw [if_pos h2]
      dsimp only [Option.getD_some]
      omega
    · rw [if_neg h2]
      dsimp only [Option.getD_none]
      have e : min (R.lines.length - 1) (c.line + 1) = c.line := by omega
      rw [e]
      omega
  · rw [if_neg h1, if_neg h1]
    by_cases h2 : c.q - 1 = 0
    · rw [if_pos h2]
      dsimp only [Option.getD_some]
      omega
    · rw [if_neg h2]
      dsimp only [Option.getD_none]
      omega
theorem modify_pos {xs : List Int} {i : Nat} {m : Int} (hm : 0 ≤ m) (h : ∀ x ∈ xs, 0 ≤ x) : ∀ x ∈ xs.modify i (· + m), 0 ≤ x := fun x hx => by
  obtain ⟨j, hj, rfl⟩ := List.mem_iff_getElem.mp hx
  rw [List.getElem_modify]
  rw [List.length_modify] at hj
  have := h _ (List.getElem_mem hj)
  split <;> omega
theorem Bd.run (b : Bd R S) (ok : R.Ok) (w : Wf R.lines.length [] S) : Bd R (S.run R 1) := by
  cases e : S.first with
  | none => rw [run_none e]; exact ⟨b.sh, b.q⟩
  | some t =>
    obtain ⟨c, e1, r, _, _, _, h, _⟩ := run_some (R := R) (m := 1) w e
    have k := w.key t c e1
    have s := b.sh t c e1
    have q := b.q t c e1 r
    have g := chg_one ok rfl k.2.2.1 q ⟨s.1, s.2.1⟩
    refine ⟨fun u d e2 => ?_, fun u d e2 r2 => ?_⟩
    · rw [h u] at e2
      by_cases z : u = t
      · rw [if_pos z] at e2
        rw [← Option.some.inj e2]
        exact ⟨g.2.2.2.1, g.2.2.2.2, modify_pos (by omega) s.2.2⟩
      · rw [if_neg z] at e2; exact b.sh u d e2
    · rw [h u] at e2
      by_cases z : u = t
      · rw [if_pos z] at e2
        rw [← Option.some.inj e2]
        exact ⟨g.2.1, g.2.2.1⟩
      · rw [if_neg z] at e2; exact b.q u d e2 r2
theorem Bd.boosted (b : Bd R S) (ok : R.Ok) (w : Wf R.lines.length [] S) : Bd R (S.boosted R) := by
  have b0 := ok.at' ok.one
  refine ⟨fun u d e2 => ?_, fun u d e2 r2 => ?_⟩
  · rw [look_boosted] at e2
    cases e : look S.cards u with
    | none => rw [e] at e2; cases e2
    | some c =>
      rw [e] at e2
      rw [← Option.some.inj e2]
      exact ⟨b0.2.2.1, Int.le_refl _, (b.sh u c e).2.2⟩
  · rw [look_boosted] at e2
    cases e : look S.cards u with
    | none => rw [e] at e2; cases e2
    | some c =>
      rw [e] at e2
      have e3 := Option.some.inj e2
      rw [← e3] at r2 ⊢
      unfold bst at r2 ⊢
      dsimp only at r2 ⊢
      by_cases h : u ∈ S.later
      · rw [if_pos h]; omega
      · rw [if_neg h]
        have := b.q u c e r2
        have z : c.line = 0 := Classical.byContradiction fun z => h ((later_out w e).mpr ⟨r2, z⟩)
        rw [z] at this
        exact this
theorem Bd.boostNow (b : Bd R S) (ok : R.Ok) (w : Wf R.lines.length [] S) : Bd R (S.boostNow R) := by
  unfold LSt.boostNow
  split
  · exact b.boosted ok w
  · exact b
theorem Bd.tick (b : Bd R S) (ok : R.Ok) (w : Wf R.lines.length [] S) : Bd R (S.tick R) := (b.boostNow ok w).run ok (w.boostNow' ok.one)
theorem Bd.come (b : Bd R S) (ok : R.Ok) (e : look S.cards t = none) : Bd R (S.come R t) := by
  have b0 := ok.at' ok.one
  refine ⟨fun u d e2 => ?_, fun u d e2 r2 => ?_⟩
  · rw [look_come e] at e2
    by_cases z : u = t
    · rw [if_pos z] at e2
      rw [← Option.some.inj e2]
      exact ⟨b0.2.2.1, Int.le_refl _, fun x hx => by rw [(List.mem_replicate.mp hx).2]; omega⟩
    · rw [if_neg z] at e2; exact b.sh u d e2
  · rw [look_come e] at e2
    by_cases z : u = t
    · rw [if_pos z] at e2
      rw [← Option.some.inj e2]
      exact ⟨b0.1, Int.le_refl _⟩
    · rw [if_neg z] at e2; exact b.q u d e2 r2
theorem Bd.go (b : Bd R S) : Bd R (S.go t) := by
  refine ⟨fun u d e2 => ?_, fun u d e2 r2 => ?_⟩
  · rw [look_go] at e2
    by_cases z : u = t
    · rw [if_pos z] at e2; cases e2
    · rw [if_neg z] at e2; exact b.sh u d e2
  · rw [look_go] at e2
    by_cases z : u = t
    · rw [if_pos z] at e2; cases e2
    · rw [if_neg z] at e2; exact b.q u d e2 r2
theorem Bd.wait (b : Bd R S) : Bd R (S.wait t) := by
  refine ⟨fun u d e2 => ?_, fun u d e2 r2 => ?_⟩
  · rw [look_wait] at e2
    by_cases z : u = t
    · rw [if_pos z] at e2
      cases e : look S.cards u with
      | none => rw [e] at e2; cases e2
      | some c => rw [e] at e2; rw [← Option.some.inj e2]; exact b.sh u c e
    · rw [if_neg z] at e2; exact b.sh u d e2
  · rw [look_wait] at e2
    by_cases z : u = t
    · rw [if_pos z] at e2
      cases e : look S.cards u with
      | none => rw [e] at e2; cases e2
      | some c => rw [e] at e2; rw [← Option.some.inj e2] at r2; cases r2
    · rw [if_neg z] at e2; exact b.q u d e2 r2
theorem Bd.wake (b : Bd R S) (ok : R.Ok) (w : Wf R.lines.length [] S) (e : look S.cards t = some c) : Bd R (S.wake R t) := by
  have b0 := ok.at' (w.key t c e).2.2.1
  have s := b.sh t c e
  refine ⟨fun u d e2 => ?_, fun u d e2 r2 => ?_⟩
  · rw [look_wake e] at e2
    by_cases z : u = t
    · rw [if_pos z] at e2
      rw [← Option.some.inj e2]
      dsimp only
      refine ⟨?_, ?_, s.2.2⟩ <;> split <;> omega
    · rw [if_neg z] at e2; exact b.sh u d e2
  · rw [look_wake e] at e2
    by_cases z : u = t
    · rw [if_pos z] at e2
      rw [← Option.some.inj e2]
      exact ⟨b0.1, Int.le_refl _⟩
    · rw [if_neg z] at e2; exact b.q u d e2 r2
theorem Bd.deed (b : Bd R S) (ok : R.Ok) (w : Wf R.lines.length [] S) (d : Deed R S p S' p') : Bd R S' := by
  cases d with
  | tick => exact b.tick ok w
  | wait t c e r => exact b.wait
  | come t e h1 h2 => exact b.come ok h1
  | wake t c e r => exact b.wake ok w ‹_›
  | go t c e => exact b.go
  | none => exact b
theorem Wf.deed (ok : R.Ok) (w : Wf R.lines.length [] S) (d : Deed R S p S' p') : Wf R.lines.length [] S' := by
  cases d with
  | tick => exact w.tick ok.one
  | wait t c e r => exact w.wait e
  | come t e h1 h2 => exact w.come ‹look S.cards _ = none› ⟨by assumption, by assumption⟩ ok.one
  | wake t c e r => exact w.wake ‹look S.cards _ = some _› ‹_›
  | go t c e => exact w.go ‹look S.cards _ = some _›
  | none => exact w
end
/-! ### charges kept -/
/-- of one card, since its mark -/
def Kpt (R : Rul) (n : Nat) (c : Card) (ms : List Int) : Prop :=
  ms.length = n ∧ ∀ k, k < n → (k < c.line → c.sp.getD k 0 - ms.getD k 0 = R.s k) ∧ (k = c.line → c.line < n - 1 → c.sh + (c.sp.getD k 0 - ms.getD k 0) = R.s k) ∧ (c.line < k → c.sp.getD k 0 - ms.getD k 0 = 0)
def Kept (R : Rul) (S : LSt) (M : Int → Option (List Int)) : Prop := ∀ t c, look S.cards t = some c → ∃ ms, M t = some ms ∧ Kpt R R.lines.length c ms
section
variable {R : Rul} {S S' : LSt} {n : Nat} {t u : Int} {c : Card} {l j : Nat} {m : Int} {p p' : Option Int} {M M' : Int → Option (List Int)} {ms : List Int}
theorem getD_modify {xs : List Int} {i k : Nat} {m : Int} (h : i < xs.length) : (xs.modify i (· + m)).getD k 0 = if k = i then xs.getD k 0 + m else xs.getD k 0 := by
  rw [List.getD_eq_getElem?_getD, List.getElem?_modify, List.getD_eq_getElem?_getD]
  by_cases e : k = i
  · subst e
    rw [if_pos rfl, List.getElem?_eq_getElem h]; simp
  · rw [if_neg e]
    have e' : ¬ i = k := fun z => e z.symm
    cases xs[k]? <;> simp [e']
theorem Kpt.chg (k : Kpt R n c ms) (hl : c.line < n) (hsp : c.sp.length = n) : Kpt R n (chg R n c 1) ms := by
  refine ⟨k.1, fun i hi => ?_⟩
  obtain ⟨k1, k2, k3⟩ := k.2 i hi
  have e1 : (Qn.chg R n c 1).sp.getD i 0 = if i = c.line then c.sp.getD i 0 + 1 else c.sp.getD i 0 := getD_modify (by omega)
  rw [e1]
  obtain ⟨k1', k2', k3'⟩ := k.2 c.line hl
  unfold Qn.chg mov
  dsimp only
  by_cases h1 : c.sh - 1 = 0
  · rw [if_pos h1, if_pos h1]
    by_cases h2 : c.line < n - 1 ∨ c.q - 1 = 0
    · rw [if_pos h2]
      dsimp only [Option.getD_some]
      by_cases h3 : c.line < n - 1
      · have e : min (n - 1) (c.line + 1) = c.line + 1 := by omega
        rw [e]
        refine ⟨fun h => ?_, fun h h' => ?_, fun h => ?_⟩
        · by_cases q : i = c.line
          · rw [if_pos q]; have := k2 q h3; rw [q] at this ⊢; omega
          · rw [if_neg q]; exact k1 (by omega)
        · rw [if_neg (by omega), k3 (by omega), h]; omega
        · rw [if_neg (by omega)]; exact k3 (by omega)
      · have e : min (n - 1) (c.line + 1) = c.line := by omega
        rw [e]
        refine ⟨fun h => ?_, fun h h' => absurd h' h3, fun h => ?_⟩
        · rw [if_neg (by omega)]; exact k1 h
        · omega
    · rw [if_neg h2]
      dsimp only [Option.getD_none]
      refine ⟨fun h => ?_, fun h h' => absurd (.inl h') h2, fun h => ?_⟩
      · rw [if_neg (by omega)]; exact k1 h
      · omega
  · rw [if_neg h1, if_neg h1]
    have fin : (i < c.line → (if i = c.line then c.sp.getD i 0 + 1 else c.sp.getD i 0) - ms.getD i 0 = R.s i) ∧ (i = c.line → c.line < n - 1 → c.sh - 1 + ((if i = c.line then c.sp.getD i 0 + 1 else c.sp.getD i 0) - ms.getD i 0) = R.s i) ∧
        (c.line < i → (if i = c.line then c.sp.getD i 0 + 1 else c.sp.getD i 0) - ms.getD i 0 = 0) := by
      refine ⟨fun h => ?_, fun h h' => ?_, fun h => ?_⟩
      · rw [if_neg (by omega)]; exact k1 h
      · rw [if_pos h]; have := k2 h h'; omega
      · rw [if_neg (by omega)]; exact k3 h
    by_cases h2 : c.q - 1 = 0
    · rw [if_pos h2]; exact fin
    · rw [if_neg h2]; exact fin
theorem Kept.run (k : Kept R S M) (w : Wf R.lines.length [] S) : Kept R (S.run R 1) M := by
  cases e : S.first with
  | none => rw [run_none e]; exact k
  | some t =>
    obtain ⟨c, e1, r, _, _, _, h, _⟩ := run_some (R := R) (m := 1) w e
    have ky := w.key t c e1
    intro u d e2
    rw [h u] at e2
    by_cases z : u = t
    · rw [if_pos z] at e2
      rw [← Option.some.inj e2, z]
      obtain ⟨ms, h1, h2⟩ := k t c e1
      exact ⟨ms, h1, h2.chg ky.2.2.1 ky.2.2.2⟩
    · rw [if_neg z] at e2; exact k u d e2
/-- all are marked anew -/
theorem Kept.mark (ok : R.Ok) (w : Wf R.lines.length [] S) (hM : ∀ t c, look S.cards t = some c → M t = some c.sp) : Kept R (S.boosted R) M := by
  intro u d e2
  rw [look_boosted] at e2
  cases e : look S.cards u with
  | none => rw [e] at e2; cases e2
  | some c =>
    rw [e] at e2
    rw [← Option.some.inj e2]
    refine ⟨c.sp, hM u c e, (w.key u c e).2.2.2, fun k hk => ⟨fun h => ?_, fun h _ => ?_, fun h => ?_⟩⟩
    · exact absurd h (by show ¬ k < 0; omega)
    · have : k = 0 := h
      rw [this]
      show R.s 0 + (c.sp.getD 0 0 - c.sp.getD 0 0) = R.s 0
      omega
    · show c.sp.getD k 0 - c.sp.getD k 0 = 0
      omega
theorem Kept.tick (ok : R.Ok) (w : Wf R.lines.length [] S) (k : S.due R = false → Kept R S M) (hM : S.due R = true → ∀ t c, look S.cards t = some c → M t = some c.sp) : Kept R (S.tick R) M := by
  refine Kept.run ?_ (w.boostNow' ok.one)
  unfold LSt.boostNow
  by_cases h : S.due R = true
  · rw [if_pos h]; exact .mark ok w (hM h)
  · rw [if_neg h]; exact k (by simpa using h)
theorem Kpt.fresh : Kpt R R.lines.length ⟨0, R.q 0, R.s 0, true, List.replicate R.lines.length 0⟩ (List.replicate R.lines.length 0) := by
  refine ⟨by simp, fun k hk => ⟨fun h => ?_, fun h _ => ?_, fun h => ?_⟩⟩
  · exact absurd h (by show ¬ k < 0; omega)
  · have e : k = 0 := h
    rw [e]
    dsimp only
    omega
  · dsimp only
    omega
theorem Kept.empty (h : S.cards = []) : Kept R S M := fun t c e => by rw [h] at e; cases e
theorem Kept.wait (k : Kept R S M) : Kept R (S.wait t) M := by
  intro u d e2
  rw [look_wait] at e2
  by_cases z : u = t
  · rw [if_pos z] at e2
    cases e : look S.cards u with
    | none => rw [e] at e2; cases e2
    | some c =>
      rw [e] at e2
      rw [← Option.some.inj e2]
      exact k u c e
  · rw [if_neg z] at e2; exact k u d e2
theorem Kept.go (k : Kept R S M) : Kept R (S.go t) M := by
  intro u d e2
  rw [look_go] at e2
  by_cases z : u = t
  · rw [if_pos z] at e2; cases e2
  · rw [if_neg z] at e2; exact k u d e2
theorem Kept.wake (k : Kept R S M) (hk : R.kept = true) (e : look S.cards t = some c) : Kept R (S.wake R t) M := by
  intro u d e2
  rw [look_wake e] at e2
  by_cases z : u = t
  · rw [if_pos z] at e2
    rw [← Option.some.inj e2, z, hk]
    exact k t c e
  · rw [if_neg z] at e2; exact k u d e2
/-- one deed, and the marks that go with it -/
theorem Kept.deed (k : Kept R S M) (ok : R.Ok) (w : Wf R.lines.length [] S) (hk : R.kept = true) (d : Deed R S p S' p')
    (hM : ∀ t c, look S'.cards t = some c → M' t = if look S.cards t = none then some (List.replicate R.lines.length 0) else if S'.time > S.time ∧ S.due R = true then (look S.cards t).map (·.sp) else M t) : Kept R S' M' := by
  have out : ∀ {S'' : LSt}, Kept R S'' M → S''.time = S.time → (∀ t c, look S''.cards t = some c → ∃ c', look S.cards t = some c') →
      (∀ t c, look S''.cards t = some c → M' t = if look S.cards t = none then some (List.replicate R.lines.length 0) else if S''.time > S.time ∧ S.due R = true then (look S.cards t).map (·.sp) else M t) → Kept R S'' M' := by
    intro S'' k' ht hl hM t c e
    obtain ⟨c', e'⟩ := hl t c e
    obtain ⟨ms, h1, h2⟩ := k' t c e
    refine ⟨ms, ?_, h2⟩
    rw [hM t c e, e', if_neg (by simp), if_neg (fun z => by have := z.1; omega), h1]
  cases d with
  | tick =>
    have hl : ∀ t, look (S.tick R).cards t = none ↔ look S.cards t = none := fun t => by
      have h1 : look (S.boostNow R).cards t = none ↔ look S.cards t = none := by
        unfold LSt.boostNow
        split
        · rw [look_boosted]; simp
        · rfl
      rw [← h1]
      unfold LSt.tick
      cases e : (S.boostNow R).first with
      | none => rw [run_none e]
      | some v =>
        obtain ⟨c, e1, r, _, _, _, h, _⟩ := run_some (R := R) (m := 1) (w.boostNow' ok.one) e
        rw [h t]
        by_cases z : t = v
        · rw [if_pos z, z, e1]; simp
        · rw [if_neg z]
    have ht : (S.tick R).time > S.time := by rw [time_tick]; omega
    have K : Kept R (S.tick R) (fun t => if S.due R = true then (look S.cards t).map (·.sp) else M t) :=
      .tick ok w (fun h => by simp only [h]; exact k) (fun h t c e => by simp only [h, if_true, e]; rfl)
    intro t c e
    obtain ⟨ms, h1, h2⟩ := K t c e
    refine ⟨ms, ?_, h2⟩
    rw [hM t c e, if_neg (fun z => by rw [(hl t).mpr z] at e; cases e)]
    by_cases h : S.due R = true
    · rw [if_pos ⟨ht, h⟩]
      simp only [h, if_true] at h1
      exact h1
    · rw [if_neg (fun z => h z.2)]
      simp only [h] at h1
      exact h1
  | wait t c e r =>
    refine out k.wait time_wait (fun u d e2 => ?_) hM
    rw [look_wait] at e2
    by_cases z : u = t
    · exact ⟨c, z ▸ e⟩
    · rw [if_neg z] at e2; exact ⟨d, e2⟩
  | come _ t e h1 h2 =>
    intro u d e2
    have hu := hM u d e2
    rw [look_come e, w.rl] at e2
    by_cases z : u = t
    · rw [if_pos z] at e2
      rw [z, e, if_pos rfl] at hu
      rw [← Option.some.inj e2, z]
      exact ⟨_, hu, Kpt.fresh⟩
    · rw [if_neg z] at e2
      obtain ⟨ms, h3, h4⟩ := k u d e2
      refine ⟨ms, ?_, h4⟩
      rw [hu, e2, if_neg (by simp), if_neg (fun z => by have := z.1; rw [time_come] at this; omega), h3]
  | wake _ t c e r =>
    refine out (k.wake hk e) time_wake (fun u d e2 => ?_) hM
    rw [look_wake e] at e2
    by_cases z : u = t
    · exact ⟨c, z ▸ e⟩
    · rw [if_neg z] at e2; exact ⟨d, e2⟩
  | go _ t c e =>
    refine out k.go time_go (fun u d e2 => ?_) hM
    rw [look_go] at e2
    by_cases z : u = t
    · rw [if_pos z] at e2; cases e2
    · rw [if_neg z] at e2; exact ⟨d, e2⟩
  | none => exact out k rfl (fun t c e => ⟨c, e⟩) hM
end
end Qn

/-! M3: all rows laid flat; whole numbers as data. -/
namespace Qn
open PySem L2
section
variable {S : LSt} {n : Nat} {t : Int} {c : Card}
theorem rows_flat (hn : 0 < S.rows.length) : S.rows.flatten = S.row 0 ++ S.later := by
  unfold LSt.later LSt.row
  cases h : S.rows with
  | nil => rw [h] at hn; cases hn
  | cons x r => simp
theorem mem_flat : t ∈ S.rows.flatten ↔ ∃ l, t ∈ S.row l := by
  rw [List.mem_flatten]
  constructor
  · rintro ⟨xs, hx, ht⟩
    obtain ⟨i, hi, rfl⟩ := List.mem_iff_getElem.mp hx
    exact ⟨i, by rw [LSt.row_some (List.getElem?_eq_getElem hi)]; exact ht⟩
  · rintro ⟨l, ht⟩
    have hl : l < S.rows.length := Classical.byContradiction fun z => by rw [row_out (by omega)] at ht; cases ht
    exact ⟨S.row l, List.mem_iff_getElem?.mpr ⟨l, LSt.row_at hl⟩, ht⟩
theorem mem_flatW (w : Wf n [] S) : t ∈ S.rows.flatten ↔ ∃ c, look S.cards t = some c ∧ c.rdy = true := by
  rw [mem_flat]
  constructor
  · rintro ⟨l, h⟩
    obtain ⟨_, c, e, r, _⟩ := (w.mem l t).mp h
    exact ⟨c, e, r⟩
  · rintro ⟨c, e, r⟩
    exact ⟨c.line, (look_ready w e).mp r⟩
theorem flat_nodup (w : Wf n [] S) (hn : 0 < n) : S.rows.flatten.Nodup := by
  rw [rows_flat (by rw [w.rl]; exact hn)]
  refine List.nodup_append.mpr ⟨w.rnd 0, w.laterND, fun a ha b hb e => ?_⟩
  subst e
  obtain ⟨_, c, e, _, q⟩ := (w.mem 0 a).mp ha
  have := (later_out w e).mp hb
  exact this.2 q
theorem flat_len (w : Wf n [] S) (hn : 0 < n) : S.rows.flatten.length ≤ 20 := few (flat_nodup w hn) fun x hx => by
  obtain ⟨c, e, _⟩ := (mem_flatW w).mp hx
  exact ⟨(w.key x c e).1, (w.key x c e).2.1⟩
end
theorem not_mem_take {xs : List Int} {j : Nat} {t : Int} (nd : xs.Nodup) (h : xs[j]? = some t) : t ∉ xs.take j := fun z => by
  obtain ⟨hj, e⟩ := List.getElem?_eq_some_iff.mp h
  have e2 : xs = xs.take j ++ t :: xs.drop (j + 1) := by
    conv => lhs; rw [← List.take_append_drop j xs, List.drop_eq_getElem_cons hj, e]
  rw [e2] at nd
  exact (List.nodup_append.mp nd).2.2 t z t List.mem_cons_self rfl
/-! whole numbers as data -/
theorem eqvAll_ints : ∀ {xs ys : List Int}, PyData.eqvAll (xs.map .int) (ys.map .int) = decide (xs = ys)
  | [], [] => by simp [PyData.eqvAll]
  | [], y :: ys => by simp [PyData.eqvAll]
  | x :: xs, [] => by simp [PyData.eqvAll]
  | x :: xs, y :: ys => by
    rw [List.map_cons, List.map_cons, PyData.eqvAll, eqvAll_ints]
    by_cases h : x = y <;> simp [PyData.eqv, h]
theorem eqv_ints {xs ys : List Int} : PyData.eqv (.list (xs.map .int)) (.list (ys.map .int)) = decide (xs = ys) := by
  rw [PyData.eqv]; exact eqvAll_ints
theorem eqvAll_rows : ∀ {xs ys : List (List Int)}, PyData.eqvAll (xs.map fun r => .list (r.map .int)) (ys.map fun r => .list (r.map .int)) = decide (xs = ys)
  | [], [] => by simp [PyData.eqvAll]
  | [], y :: ys => by simp [PyData.eqvAll]
  | x :: xs, [] => by simp [PyData.eqvAll]
  | x :: xs, y :: ys => by
    rw [List.map_cons, List.map_cons, PyData.eqvAll, eqvAll_rows, eqv_ints]
    by_cases h : x = y <;> simp [h]
theorem eqv_rows {xs ys : List (List Int)} : PyData.eqv (.list (xs.map fun r => .list (r.map .int))) (.list (ys.map fun r => .list (r.map .int))) = decide (xs = ys) := by
  rw [PyData.eqv]; exact eqvAll_rows
end Qn

/-! M4: lines alike but for quanta of those that wait, for what was used, for the moment. -/
namespace Qn
open PySem L2
/-- cards alike -/
def CSim (c d : Card) : Prop := c.line = d.line ∧ c.sh = d.sh ∧ c.rdy = d.rdy ∧ (c.rdy = true → c.q = d.q)
def OSim : Option Card → Option Card → Prop
  | some c, some d => CSim c d
  | none, none => True
  | _, _ => False
structure Sim (A B : LSt) : Prop where
  len : A.rows.length = B.rows.length
  row : ∀ j, A.row j = B.row j
  card : ∀ t, OSim (look A.cards t) (look B.cards t)
section
variable {R R' : Rul} {A B S T : LSt} {n : Nat} {t u : Int} {c d : Card} {l j : Nat}
theorem rows_ext {A B : LSt} (h1 : A.rows.length = B.rows.length) (h2 : ∀ j, A.row j = B.row j) : A.rows = B.rows := by
  apply List.ext_getElem h1
  intro i a b
  have := h2 i
  rw [LSt.row_some (List.getElem?_eq_getElem a), LSt.row_some (List.getElem?_eq_getElem b)] at this
  exact this
theorem Sim.rows (s : Sim A B) : A.rows = B.rows := rows_ext s.len s.row
theorem Sim.first (s : Sim A B) : A.first = B.first := by
  have e := s.rows
  unfold LSt.first LSt.rdyIx LSt.row
  rw [e]
theorem Sim.some (s : Sim A B) (e : look A.cards t = .some c) : ∃ d, look B.cards t = .some d ∧ CSim c d := by
  have := s.card t
  rw [e] at this
  cases h : look B.cards t with
  | none => rw [h] at this; exact this.elim
  | some d => rw [h] at this; exact ⟨d, rfl, this⟩
theorem Sim.none (s : Sim A B) : look A.cards t = .none ↔ look B.cards t = .none := by
  have := s.card t
  cases h : look A.cards t <;> cases h2 : look B.cards t <;> simp_all [OSim]
/-- the rules alike but for boosts -/
structure RSim (R R' : Rul) : Prop where
  lines : R.lines = R'.lines
  kept : R.kept = R'.kept
theorem RSim.q (r : RSim R R') (l : Nat) : R.q l = R'.q l := by unfold Rul.q; rw [r.lines]
theorem RSim.s (r : RSim R R') (l : Nat) : R.s l = R'.s l := by unfold Rul.s; rw [r.lines]
theorem CSim.mov (s : CSim c d) (r : c.rdy = true) (m : Int) : mov n c m = mov n d m := by
  obtain ⟨h1, h2, h3, h4⟩ := s
  unfold Qn.mov
  rw [h1, h2, h4 r]
theorem CSim.chg (s : CSim c d) (r : c.rdy = true) (q : RSim R R') : CSim (chg R n c 1) (chg R' n d 1) := by
  have hm := s.mov (n := n) r 1
  obtain ⟨h1, h2, h3, h4⟩ := s
  have h4 := h4 r
  unfold Qn.chg
  refine ⟨?_, ?_, h3, fun _ => ?_⟩
  · dsimp only; rw [hm, h1]
  · dsimp only; rw [h1, h2, q.s]
  · dsimp only
    rw [hm, h4]
    cases Qn.mov n d 1 with
    | none => rfl
    | some l => exact q.q l
theorem Sim.run (s : Sim A B) (q : RSim R R') (w : Wf n [] A) (w' : Wf n [] B) : Sim (A.run R 1) (B.run R' 1) := by
  cases e : A.first with
  | none =>
    have e' : B.first = .none := by rw [← s.first]; exact e
    rw [run_none e, run_none e']
    exact ⟨s.len, s.row, s.card⟩
  | some t =>
    have e' : B.first = .some t := by rw [← s.first]; exact e
    obtain ⟨c, c1, c2, _, _, _, c3, c4, c5, _⟩ := run_some (R := R) (m := 1) w e
    obtain ⟨d, d1, d2, _, _, _, d3, d4, d5, _⟩ := run_some (R := R') (m := 1) w' e'
    obtain ⟨d', h1, h2⟩ := s.some c1
    rw [d1] at h1
    cases Option.some.inj h1
    refine ⟨by rw [c5, d5, s.len], fun j => ?_, fun u => ?_⟩
    · rw [c4 j, d4 j, h2.mov c2 1, s.row j]
    · rw [c3 u, d3 u]
      by_cases z : u = t
      · rw [if_pos z, if_pos z]; exact h2.chg c2 q
      · rw [if_neg z, if_neg z]; exact s.card u
theorem Sim.wake (s : Sim A B) (q : RSim R R') (w : Wf n [] A) (w' : Wf n [] B) (e : look A.cards t = .some c) : Sim (A.wake R t) (B.wake R' t) := by
  obtain ⟨d, e', h⟩ := s.some e
  refine ⟨by rw [len_wake, len_wake, s.len], fun j => ?_, fun u => ?_⟩
  · rw [row_wake w e, row_wake w' e', h.1, s.row j]
  · rw [look_wake e, look_wake e']
    by_cases z : u = t
    · rw [if_pos z, if_pos z]
      obtain ⟨h1, h2, h3, h4⟩ := h
      refine ⟨h1, ?_, rfl, fun _ => ?_⟩
      · dsimp only; rw [h1, h2, q.kept, q.s]
      · dsimp only; rw [h1, q.q]
    · rw [if_neg z, if_neg z]; exact s.card u
/-! a twin: those of rd ready, in turn, those of wt waiting, all as they come -/
structure Tw (R : Rul) (n : Nat) (rd wt : List Int) (T : LSt) : Prop where
  r0 : T.row 0 = rd
  rj : ∀ j, 0 < j → T.row j = []
  lk : ∀ t, look T.cards t = if t ∈ rd then .some ⟨0, R.q 0, R.s 0, true, List.replicate n 0⟩ else if t ∈ wt then .some ⟨0, R.q 0, R.s 0, false, List.replicate n 0⟩ else .none
theorem Tw.come (h : Tw R n rd [] T) (w : Wf n [] T) (hn : 0 < n) (ht : t ∉ rd) : look T.cards t = .none ∧ Tw R n (rd ++ [t]) [] (T.come R t) := by
  have e : look T.cards t = .none := by rw [h.lk, if_neg ht, if_neg (by simp)]
  refine ⟨e, ?_, fun j hj => ?_, fun u => ?_⟩
  · rw [row_come (by rw [w.rl]; exact hn), if_pos rfl, h.r0]
  · rw [row_come (by rw [w.rl]; exact hn), if_neg (by omega), h.rj j hj]
  · rw [look_come e, w.rl, h.lk]
    by_cases z : u = t
    · rw [if_pos z, if_pos (by rw [z]; simp)]
    · rw [if_neg z]
      by_cases y : u ∈ rd
      · rw [if_pos y, if_pos (by simp [y])]
      · rw [if_neg y, if_neg (by simp), if_neg (by simp [y, z])]
theorem Tw.stay (h : Tw R n rd wt T) (w : Wf n [] T) (hn : 0 < n) (ht : t ∉ rd) (ht' : t ∉ wt) : look T.cards t = .none ∧ look (T.come R t).cards t = .some ⟨0, R.q 0, R.s 0, true, List.replicate n 0⟩ ∧ (Wf n [] (T.come R t) → Tw R n rd (wt ++ [t]) ((T.come R t).wait t)) := by
  have e : look T.cards t = .none := by rw [h.lk, if_neg ht, if_neg ht']
  have e2 : look (T.come R t).cards t = .some ⟨0, R.q 0, R.s 0, true, List.replicate n 0⟩ := by rw [look_come e, if_pos rfl, w.rl]
  refine ⟨e, e2, fun w2 => ⟨?_, fun j hj => ?_, fun u => ?_⟩⟩
  · rw [row_wait w2 e2, row_come (by rw [w.rl]; exact hn), if_pos rfl, h.r0, List.erase_append_right _ ht]; simp
  · rw [row_wait w2 e2, row_come (by rw [w.rl]; exact hn), if_neg (by omega), h.rj j hj]; rfl
  · rw [look_wait]
    by_cases z : u = t
    · rw [if_pos z, z, e2, if_neg ht, if_pos (by simp)]; rfl
    · rw [if_neg z, look_come e, if_neg z, h.lk]
      by_cases y : u ∈ rd
      · rw [if_pos y, if_pos y]
      · rw [if_neg y, if_neg y]
        by_cases x : u ∈ wt
        · rw [if_pos x, if_pos (by simp [x])]
        · rw [if_neg x, if_neg (by simp [x, z])]
theorem bst_look (e : look S.cards t = .some c) : look (S.boosted R).cards t = .some (bst R S t c) := by rw [look_boosted, e]; rfl
/-- at a boost: the twin is alike -/
theorem Tw.sim (h : Tw R n S.rows.flatten wt T) (w : Wf n [] S) (w' : Wf n [] T) (hn : 0 < n) (hw : ∀ t, t ∈ wt ↔ ∃ c, look S.cards t = .some c ∧ c.rdy = false) (hq : ∀ t c, look S.cards t = .some c → t ∈ S.row 0 → c.q = R.q 0) : Sim (S.boosted R) T := by
  have hn' : 0 < S.rows.length := by rw [w.rl]; exact hn
  refine ⟨by rw [len_boosted hn', w.rl, w'.rl], fun j => ?_, fun u => ?_⟩
  · rw [row_boosted hn']
    by_cases z : j = 0
    · rw [if_pos z, z, h.r0, rows_flat hn']
    · rw [if_neg z, h.rj j (by omega)]
  · rw [h.lk]
    cases e : look S.cards u with
    | none =>
      have n1 : u ∉ S.rows.flatten := fun z => by obtain ⟨c, e', _⟩ := (mem_flatW w).mp z; rw [e] at e'; cases e'
      have n2 : u ∉ wt := fun z => by obtain ⟨c, e', _⟩ := (hw u).mp z; rw [e] at e'; cases e'
      rw [look_boosted, e, if_neg n1, if_neg n2]; trivial
    | some c =>
      rw [bst_look e]
      cases r : c.rdy with
      | true =>
        rw [if_pos ((mem_flatW w).mpr ⟨c, e, r⟩)]
        refine ⟨rfl, rfl, r, fun _ => ?_⟩
        show (if u ∈ S.later then R.q 0 else c.q) = R.q 0
        by_cases z : u ∈ S.later
        · rw [if_pos z]
        · rw [if_neg z]
          refine hq u c e ?_
          have z2 : c.line = 0 := Classical.byContradiction fun y => z ((later_out w e).mpr ⟨r, y⟩)
          have := (look_ready w e).mp r
          rw [z2] at this; exact this
      | false =>
        have n1 : u ∉ S.rows.flatten := fun z => by obtain ⟨c', e', r'⟩ := (mem_flatW w).mp z; rw [e] at e'; cases Option.some.inj e'; rw [r] at r'; cases r'
        rw [if_neg n1, if_pos ((hw u).mpr ⟨c, e, r⟩)]
        exact ⟨rfl, rfl, r, fun z => absurd (show c.rdy = true from z) (by rw [r]; simp)⟩
/-- a task woken at the boost's moment, none in later lines -/
theorem Tw.simWake (h : Tw R n S.rows.flatten wt T) (w : Wf n [] S) (w' : Wf n [] T) (hn : 0 < n) (q : RSim R R') (hw : ∀ t, t ∈ wt ↔ ∃ c, look S.cards t = .some c ∧ c.rdy = false) (hq : ∀ t c, look S.cards t = .some c → t ∈ S.row 0 → c.q = R.q 0)
    (hl : ∀ j, 0 < j → S.row j = []) (e : look S.cards t = .some c) (r : c.rdy = false) : Sim ((S.wake R t).boosted R) (T.wake R' t) := by
  have hn' : 0 < S.rows.length := by rw [w.rl]; exact hn
  have w2 := w.wake (R := R) e r
  have base := h.sim w w' hn hw hq
  have nr : t ∉ S.rows.flatten := fun z => by obtain ⟨c', e', r'⟩ := (mem_flatW w).mp z; rw [e] at e'; cases Option.some.inj e'; rw [r] at r'; cases r'
  have eT : look T.cards t = .some ⟨0, R.q 0, R.s 0, false, List.replicate n 0⟩ := by rw [h.lk, if_neg nr, if_pos ((hw t).mpr ⟨c, e, r⟩)]
  have hl2 : S.later = [] := by
    unfold LSt.later
    rw [List.flatten_eq_nil_iff]
    intro xs hx
    obtain ⟨i, hi, rfl⟩ := List.mem_iff_getElem.mp hx
    rw [List.getElem_drop]
    rw [List.length_drop] at hi
    have := hl (1 + i) (by omega)
    rw [LSt.row_some (List.getElem?_eq_getElem (by omega))] at this
    exact this
  have ef : S.rows.flatten = S.row 0 := by rw [rows_flat hn', hl2, List.append_nil]
  have hl3 : ∀ u, u ∈ (S.wake R t).later ↔ u = t ∧ c.line ≠ 0 := fun u => by
    rw [mem_later]
    constructor
    · rintro ⟨l, h1, h2⟩
      rw [row_wake w e] at h2
      by_cases z : l = c.line
      · rw [if_pos z, hl l (by omega)] at h2
        have h2' : u = t := by simpa using h2
        exact ⟨h2', by omega⟩
      · rw [if_neg z, hl l (by omega)] at h2; cases h2
    · rintro ⟨rfl, h1⟩
      exact ⟨c.line, by omega, by rw [row_wake w e, if_pos rfl]; simp⟩
  have hlater : (S.wake R t).later = if c.line = 0 then [] else [t] := by
    unfold LSt.later
    have e1 : (S.wake R t).rows.drop 1 = (List.range (S.rows.length - 1)).map fun i => if i + 1 = c.line then [t] else [] := by
      apply List.ext_getElem
      · simp [len_wake]
      · intro i h1 h2
        rw [List.getElem_drop, List.getElem_map, List.getElem_range]
        rw [List.length_drop, len_wake] at h1
        have := row_wake (R := R) (j := 1 + i) w e
        rw [LSt.row_some (List.getElem?_eq_getElem (show 1 + i < (S.wake R t).rows.length by rw [len_wake]; omega)), hl (1 + i) (by omega)] at this
        rw [this]
        by_cases z : i + 1 = c.line
        · rw [if_pos (by omega), if_pos z]; rfl
        · rw [if_neg (by omega), if_neg z]
    rw [e1]
    have hc : c.line < S.rows.length := by rw [w.rl]; exact (w.key t c e).2.2.1
    have fl : ∀ m, ((List.range m).map fun i => if i + 1 = c.line then [t] else []).flatten = if 0 < c.line ∧ c.line ≤ m then [t] else [] := by
      intro m
      induction m with
      | zero => rw [if_neg (by omega)]; rfl
      | succ m ih =>
        rw [List.range_succ, List.map_append, List.flatten_append, ih]
        by_cases z : m + 1 = c.line
        · rw [if_neg (by omega), if_pos (by omega)]; simp [z]
        · by_cases y : 0 < c.line ∧ c.line ≤ m
          · rw [if_pos y, if_pos (by omega)]; simp [z]
          · rw [if_neg y, if_neg (by omega)]; simp [z]
    rw [fl]
    by_cases z : c.line = 0
    · rw [if_neg (by omega), if_pos z]
    · rw [if_pos (by omega), if_neg z]
  refine ⟨by rw [len_boosted (by rw [len_wake]; exact hn'), len_wake, len_wake, w.rl, w'.rl], fun j => ?_, fun u => ?_⟩
  · rw [row_boosted (by rw [len_wake]; exact hn'), row_wake w' eT, row_wake w e, hlater]
    dsimp only
    by_cases z : j = 0
    · rw [if_pos z, if_pos z, z, h.r0, ef]
      by_cases y : c.line = 0
      · rw [if_pos y.symm, if_pos y, List.append_nil]
      · rw [if_neg (fun x => y x.symm), if_neg y]
    · rw [if_neg z, if_neg z, h.rj j (by omega)]
  · rw [look_wake eT]
    by_cases z : u = t
    · rw [if_pos z, z]
      have e2 : look (S.wake R t).cards t = .some { c with rdy := true, sh := if R.kept then c.sh else R.s c.line, q := R.q c.line } := by rw [look_wake e, if_pos rfl]
      rw [bst_look e2]
      refine ⟨rfl, ?_, rfl, fun _ => ?_⟩
      · show R.s 0 = if R'.kept = true then R.s 0 else R'.s 0
        rw [← q.s]; split <;> rfl
      · show (if t ∈ (S.wake R t).later then R.q 0 else R.q c.line) = R'.q 0
        rw [← q.q]
        by_cases y : c.line = 0
        · rw [if_neg (fun x => ((hl3 t).mp x).2 y), y]
        · rw [if_pos ((hl3 t).mpr ⟨rfl, y⟩)]
    · rw [if_neg z]
      have b := base.card u
      rw [look_boosted] at b
      rw [look_boosted, look_wake e, if_neg z]
      cases e3 : look S.cards u with
      | none => rw [e3] at b; exact b
      | some c' =>
        rw [e3] at b
        cases e4 : look T.cards u with
        | none => rw [e4] at b; exact b
        | some d =>
          rw [e4] at b
          obtain ⟨b1, b2, b3, b4⟩ := b
          refine ⟨b1, b2, b3, fun r => ?_⟩
          have := b4 r
          show (if u ∈ (S.wake R t).later then R.q 0 else c'.q) = d.q
          rw [if_neg (fun x => z ((hl3 u).mp x).1)]
          have b5 : (if u ∈ S.later then R.q 0 else c'.q) = d.q := this
          rw [hl2, if_neg (by simp)] at b5
          exact b5
/-- one that waits goes on waiting while a moment goes by -/
theorem tick_wait (ok : 0 < n) (w : Wf n [] A) (e : look A.cards t = .some c) (r : c.rdy = false) : ∃ c', look (A.tick R).cards t = .some c' ∧ c'.rdy = false := by
  have h : ∃ c', look (A.boostNow R).cards t = .some c' ∧ c'.rdy = false := by
    unfold LSt.boostNow
    split
    · exact ⟨_, bst_look e, r⟩
    · exact ⟨c, e, r⟩
  obtain ⟨c1, e1, r1⟩ := h
  have w1 := w.boostNow' (R := R) ok
  unfold LSt.tick
  cases f : (A.boostNow R).first with
  | none => rw [run_none f]; exact ⟨c1, e1, r1⟩
  | some u =>
    obtain ⟨d, d1, d2, _, _, _, d3, _⟩ := run_some (R := R) (m := 1) w1 f
    rw [d3 t]
    have z : t ≠ u := fun z => by rw [z, d1] at e1; rw [← Option.some.inj e1, d2] at r1; cases r1
    rw [if_neg z]
    exact ⟨c1, e1, r1⟩
theorem noBoost (h : R.boost = none) : A.boostNow R = A := by
  unfold LSt.boostNow LSt.due
  rw [h]; rfl
end
end Qn

/-! M5: deeds without a moment; what a boost's moment leaves. -/
namespace Qn
open PySem L2
/-- something is done, no moment goes by; with the task t -/
inductive Act (R : Rul) (S : LSt) (t : Int) : LSt → Prop
  | come : look S.cards t = none → 0 ≤ t → t ≤ 19 → Act R S t (S.come R t)
  | wake (c : Card) : look S.cards t = some c → c.rdy = false → Act R S t (S.wake R t)
  | wait (c : Card) : look S.cards t = some c → c.rdy = true → Act R S t (S.wait t)
  | go (c : Card) : look S.cards t = some c → c.rdy = true → Act R S t (S.go t)
  | none : Act R S t S
section
variable {R : Rul} {S S' : LSt} {n : Nat} {t u : Int} {c : Card} {l j : Nat}
theorem Act.deed (a : Act R S t S') : ∃ l l', Deed R S l S' l' := by
  cases a with
  | come e h1 h2 => exact ⟨_, _, .come .none t e h1 h2⟩
  | wake c e r => exact ⟨_, _, .wake .none t c e r⟩
  | wait c e r => exact ⟨_, _, .wait t c e r⟩
  | go c e r => exact ⟨_, _, .go .none t c e⟩
  | none => exact ⟨_, _, .none .none⟩
theorem Act.time (a : Act R S t S') : S'.time = S.time := by
  cases a with
  | come e h1 h2 => rfl
  | wake c e r => rfl
  | wait c e r => rfl
  | go c e r => exact time_go
  | none => rfl
theorem first_row0 (h : ∀ j, 0 < j → S.row j = []) (hn : 0 < S.rows.length) : S.first = (S.row 0).head? := by
  cases e : S.row 0 with
  | nil =>
    have : S.first = .none := first_none.mpr fun j => by
      by_cases z : j = 0
      · rw [z]; exact e
      · exact h j (by omega)
    rw [this]; rfl
  | cons x r =>
    have : S.rdyIx = [0] := by
      unfold LSt.rdyIx
      obtain ⟨m, hm⟩ : ∃ m, S.rows.length = m + 1 := ⟨S.rows.length - 1, by omega⟩
      rw [hm, List.range_succ_eq_map, List.filter_cons]
      rw [e]
      simp only [List.isEmpty_cons, Bool.not_false, if_true]
      congr 1
      rw [List.filter_eq_nil_iff]
      intro j hj
      obtain ⟨i, _, rfl⟩ := List.mem_map.mp hj
      rw [h (i + 1) (by omega)]; simp
    unfold LSt.first
    rw [this]
    show some ((S.row 0).headD 0) = _
    rw [e]; rfl
/-- what stands behind a boost's moment -/
structure BTick (R : Rul) (S S' : LSt) : Prop where
  first : (S.boostNow R).first = S.rows.flatten.head?
  other : ∀ t c, look S'.cards t = some c → S.rows.flatten.head? ≠ some t → c.line = 0 ∧ c.sh = R.s 0
  behind : ∀ t, S.rows.flatten.head? = some t → (S'.row 0).filter (fun u => decide (u ≠ t)) = S.rows.flatten.filter fun u => decide (u ≠ t)
  none : S.rows.flatten = [] → S'.row 0 = []
  rest : R.s 0 ≠ 1 → (∀ j, 0 < j → S'.row j = []) ∧ ∀ t, S.rows.flatten.head? = some t → ∃ c, look S'.cards t = some c ∧ c.line = 0 ∧ c.sh = R.s 0 - 1
theorem filter_erase' {xs : List Int} {t : Int} (h : xs.Nodup) : xs.erase t = xs.filter (fun u => decide (u ≠ t)) := by
  rw [h.erase_eq_filter]
  apply List.filter_congr
  intro u _
  by_cases e : u = t <;> simp [e]
theorem btick (ok : R.Ok) (w : Wf R.lines.length [] S) (d : S.due R = true) : BTick R S (S.tick R) := by
  have hn : 0 < S.rows.length := by rw [w.rl]; exact ok.one
  have eB : S.boostNow R = S.boosted R := by unfold LSt.boostNow; rw [if_pos d]
  have wB := w.boosted (R := R) ok.one
  have r0 : (S.boosted R).row 0 = S.rows.flatten := by rw [row_boosted hn, if_pos rfl, rows_flat hn]
  have rj : ∀ j, 0 < j → (S.boosted R).row j = [] := fun j hj => by rw [row_boosted hn, if_neg (by omega)]
  have f : (S.boosted R).first = S.rows.flatten.head? := by rw [first_row0 rj (by rw [len_boosted hn]; exact hn), r0]
  have et : S.tick R = (S.boosted R).run R 1 := by unfold LSt.tick; rw [eB]
  have b0 := ok.at' ok.one
  have oth : ∀ u c, look (S.boosted R).cards u = some c → c.line = 0 ∧ c.sh = R.s 0 := fun u c e => by
    rw [look_boosted] at e
    cases e2 : look S.cards u with
    | none => rw [e2] at e; cases e
    | some c0 => rw [e2] at e; rw [← Option.some.inj e]; exact ⟨rfl, rfl⟩
  cases hf : S.rows.flatten with
  | nil =>
    have fn : (S.boosted R).first = .none := by rw [f, hf]; rfl
    have ec : S.tick R = { S.boosted R with time := (S.boosted R).time + 1 } := by rw [et, run_none fn]
    refine ⟨by rw [eB, f], fun t c e _ => ?_, (fun t h => by rw [hf] at h; cases h), fun _ => ?_, fun _ => ⟨fun j hj => ?_, (fun t h => by rw [hf] at h; cases h)⟩⟩
    · rw [ec] at e; exact oth t c e
    · rw [ec]; show (S.boosted R).row 0 = []; rw [r0, hf]
    · rw [ec]; exact rj j hj
  | cons t r =>
    have fs : (S.boosted R).first = .some t := by rw [f, hf]; rfl
    obtain ⟨c, c1, c2, c3, _, _, c4, c5, c6, _⟩ := run_some (R := R) (m := 1) wB fs
    obtain ⟨l0, s0⟩ := oth t c c1
    have nd := flat_nodup w ok.one
    refine ⟨by rw [eB, f], fun u d e h => ?_, fun u h => ?_, (fun h => by rw [hf] at h; cases h), fun hs => ?_⟩
    · rw [et, c4 u] at e
      have z : u ≠ t := fun z => h (by rw [hf, z]; rfl)
      rw [if_neg z] at e
      exact oth u d e
    · rw [hf] at h
      cases Option.some.inj h
      rw [et, c5 0, r0]
      rw [hf] at nd
      have fe : ((t :: r).erase t).filter (fun u => decide (u ≠ t)) = (t :: r).filter fun u => decide (u ≠ t) := by
        rw [filter_erase' nd, List.filter_filter]; simp
      rw [hf]
      cases mov R.lines.length c 1 with
      | none => rfl
      | some l =>
        dsimp only
        split
        · rw [List.filter_append, fe]; simp
        · exact fe
    · have hm : mov R.lines.length c 1 = .none ∨ mov R.lines.length c 1 = .some 0 := by
        unfold mov
        rw [s0, if_neg (by omega), l0]
        by_cases q : c.q - 1 = 0
        · rw [if_pos q]; exact .inr rfl
        · rw [if_neg q]; exact .inl rfl
      refine ⟨fun j hj => ?_, fun u h => ?_⟩
      · rw [et, c5 j, rj j hj]
        rcases hm with z | z <;> rw [z]
        dsimp only
        rw [if_neg (by omega)]; rfl
      · rw [hf] at h
        cases Option.some.inj h
        refine ⟨_, by rw [et, c4, if_pos rfl], ?_, ?_⟩
        · unfold chg
          dsimp only
          rcases hm with z | z <;> rw [z]
          · exact l0
          · rfl
        · unfold chg
          dsimp only
          rw [s0, if_neg (by omega)]
/-- where no boost is, none goes to an earlier line -/
theorem tick_line (w : Wf n [] S) (hn : 0 < n) (nd : S.due R = false) (e : look S.cards t = some c) : ∃ c', look (S.tick R).cards t = some c' ∧ c.line ≤ c'.line := by
  have eB : S.boostNow R = S := by unfold LSt.boostNow; rw [nd]; rfl
  unfold LSt.tick
  rw [eB]
  cases f : S.first with
  | none => rw [run_none f]; exact ⟨c, e, Nat.le_refl _⟩
  | some v =>
    obtain ⟨d, d1, d2, _, _, _, d3, _⟩ := run_some (R := R) (m := 1) w f
    rw [d3 t]
    by_cases z : t = v
    · rw [if_pos z]
      rw [z, d1] at e
      have ed := Option.some.inj e
      subst ed
      refine ⟨_, rfl, ?_⟩
      unfold chg
      dsimp only
      cases h : mov n d 1 with
      | none => exact Nat.le_refl _
      | some l =>
        have := mov_lt (w.key v d d1).2.2.1 h
        show d.line ≤ l
        omega
    · rw [if_neg z]; exact ⟨c, e, Nat.le_refl _⟩
end
end Qn

/-! M6: who waits at line 0 runs in time. -/
namespace Qn
open PySem L2
/-- what is left of its quantum -/
def qof (S : LSt) (u : Int) : Int := match look S.cards u with | some c => c.q | none => 0
def wk (S : LSt) (xs : List Int) : Int := (xs.map (qof S)).sum
def Good (S : LSt) (t v : Int) : Prop := ∃ pre post, S.row 0 = pre ++ t :: post ∧ S.time + wk S pre ≤ v
section
variable {R : Rul} {S S' : LSt} {n : Nat} {t u v h : Int} {c : Card} {l j : Nat} {xs ys : List Int} {o : Option Int}
theorem wk_nil : wk S [] = 0 := rfl
theorem wk_cons : wk S (u :: xs) = qof S u + wk S xs := by unfold wk; rw [List.map_cons, List.sum_cons]
theorem wk_congr (e : ∀ u ∈ xs, qof S' u = qof S u) : wk S' xs = wk S xs := by
  unfold wk
  rw [List.map_congr_left e]
theorem wk_pos (e : ∀ u ∈ xs, 0 ≤ qof S u) : 0 ≤ wk S xs := by
  induction xs with
  | nil => exact Int.le_refl _
  | cons x r ih =>
    rw [wk_cons]
    have := e x List.mem_cons_self
    have := ih fun u hu => e u (List.mem_cons_of_mem _ hu)
    omega
theorem wk_le {z : Int} (e : ∀ u ∈ xs, qof S u ≤ z) : wk S xs ≤ xs.length * z := by
  induction xs with
  | nil => rw [wk_nil]; simp
  | cons x r ih =>
    rw [wk_cons, List.length_cons]
    have := e x List.mem_cons_self
    have := ih fun u hu => e u (List.mem_cons_of_mem _ hu)
    have e2 : ((r.length + 1 : Nat) : Int) * z = r.length * z + z := by rw [Int.natCast_add, Int.add_mul]; simp
    rw [e2]; omega
theorem wk_erase (e : ∀ u ∈ xs, 0 ≤ qof S u) : wk S (xs.erase h) ≤ wk S xs := by
  induction xs with
  | nil => exact Int.le_refl _
  | cons x r ih =>
    have a := e x List.mem_cons_self
    have b := ih fun u hu => e u (List.mem_cons_of_mem _ hu)
    rw [List.erase_cons]
    split
    · rw [wk_cons]; omega
    · rw [wk_cons, wk_cons]; omega
theorem q0_of (b : Bd R S) (w : Wf n [] S) (hu : u ∈ S.row 0) : 1 ≤ qof S u ∧ qof S u ≤ R.q 0 := by
  obtain ⟨_, c, e, r, l0⟩ := (w.mem 0 u).mp hu
  have := b.q u c e r
  unfold qof
  rw [e]
  rw [l0] at this
  exact this
theorem Good.mem (g : Good S t v) : t ∈ S.row 0 := by
  obtain ⟨pre, post, e, _⟩ := g
  rw [e]; simp
theorem Good.set (b : Bd R S) (w : Wf n [] S) {i : Nat} (hi : (S.row 0)[i]? = some t) : Good S t (S.time + i * R.q 0) := by
  obtain ⟨hl, e⟩ := List.getElem?_eq_some_iff.mp hi
  refine ⟨(S.row 0).take i, (S.row 0).drop (i + 1), ?_, ?_⟩
  · rw [← e, ← List.drop_eq_getElem_cons hl, List.take_append_drop]
  · have := wk_le (S := S) (xs := (S.row 0).take i) (z := R.q 0) fun u hu => (q0_of b w (List.mem_of_mem_take hu)).2
    rw [List.length_take, Nat.min_eq_left (by omega)] at this
    omega
theorem Good.le (g : Good S t v) (b : Bd R S) (w : Wf n [] S) : S.time ≤ v := by
  obtain ⟨pre, post, e, h⟩ := g
  have := wk_pos (S := S) (xs := pre) fun u hu => by
    have := (q0_of b w (u := u) (by rw [e]; simp [hu])).1
    omega
  omega
theorem erase_split {pre post : List Int} (ht : t ≠ h) (nd : (pre ++ t :: post).Nodup) : ∃ post', (pre ++ t :: post).erase h = pre.erase h ++ t :: post' := by
  by_cases z : h ∈ pre
  · exact ⟨post, by rw [List.erase_append_left _ z]⟩
  · rw [List.erase_append_right _ z, List.erase_of_not_mem z, List.erase_cons_tail (by simpa using ht)]
    exact ⟨_, rfl⟩
theorem qof_eq (e : look S'.cards u = look S.cards u) : qof S' u = qof S u := by unfold qof; rw [e]
/-- a row that has more behind it -/
theorem Good.more (g : Good S t v) (e : S'.row 0 = S.row 0 ++ ys) (ht : S'.time = S.time) (hq : ∀ u ∈ S.row 0, qof S' u = qof S u) : Good S' t v := by
  obtain ⟨pre, post, e1, h1⟩ := g
  refine ⟨pre, post ++ ys, by rw [e, e1]; simp, ?_⟩
  rw [ht, wk_congr fun u hu => hq u (by rw [e1]; simp [hu])]
  exact h1
theorem Good.less (g : Good S t v) (b : Bd R S) (w : Wf n [] S) (ne : t ≠ h) (e : S'.row 0 = (S.row 0).erase h) (ht : S'.time = S.time) (hq : ∀ u, u ≠ h → qof S' u = qof S u) : Good S' t v := by
  obtain ⟨pre, post, e1, h1⟩ := g
  have nd := w.rnd 0
  rw [e1] at nd
  obtain ⟨post', e2⟩ := erase_split ne nd
  refine ⟨pre.erase h, post', by rw [e, e1, e2], ?_⟩
  have nd1 : pre.Nodup := (List.nodup_append.mp nd).1
  rw [ht, wk_congr (S := S) fun u hu => hq u fun z => by rw [z] at hu; exact (nd1.mem_erase_iff.mp hu).1 rfl]
  have := wk_erase (S := S) (xs := pre) (h := h) fun u hu => by
    have := (q0_of b w (u := u) (by rw [e1]; simp [hu])).1
    omega
  omega
theorem Good.act (g : Good S t v) (b : Bd R S) (w : Wf n [] S) (ne : t ≠ h) (a : Act R S h S') (hn : 0 < n) : Good S' t v := by
  have hl : 0 < S.rows.length := by rw [w.rl]; exact hn
  have out : ∀ u ∈ S.row 0, look S.cards u ≠ none := fun u hu z => by
    obtain ⟨_, c, e, _⟩ := (w.mem 0 u).mp hu
    rw [e] at z; cases z
  cases a with
  | come e h1 h2 =>
    refine g.more (ys := [h]) (by rw [row_come hl, if_pos rfl]) rfl fun u hu => qof_eq ?_
    rw [look_come e, if_neg fun z : u = h => out u hu (z ▸ e)]
  | wake c e r =>
    have hq : ∀ u ∈ S.row 0, qof (S.wake R h) u = qof S u := fun u hu => qof_eq (by
      rw [look_wake e, if_neg fun z => ?_]
      subst z
      obtain ⟨_, c2, e2, r2, _⟩ := (w.mem 0 u).mp hu
      rw [e] at e2
      rw [← Option.some.inj e2, r] at r2
      cases r2)
    by_cases z : 0 = c.line
    · exact g.more (ys := [h]) (by rw [row_wake w e, if_pos z]) rfl hq
    · exact g.more (ys := []) (by rw [row_wake w e, if_neg z, List.append_nil]) rfl hq
  | wait c e r => exact g.less b w ne (row_wait w e) rfl fun u hu => qof_eq (by rw [look_wait, if_neg hu])
  | go c e r => exact g.less b w ne (row_go w e) time_go fun u hu => qof_eq (by rw [look_go, if_neg hu])
  | none => exact g
theorem Good.boost (g : Good S t v) (w : Wf n [] S) (hn : 0 < n) : Good (S.boostNow R) t v := by
  have hl : 0 < S.rows.length := by rw [w.rl]; exact hn
  unfold LSt.boostNow
  split
  · refine g.more (ys := S.later) (by rw [row_boosted hl, if_pos rfl]) time_boosted fun u hu => ?_
    obtain ⟨_, c, e, r, l0⟩ := (w.mem 0 u).mp hu
    unfold qof
    rw [look_boosted, e]
    show (bst R S u c).q = c.q
    unfold bst
    dsimp only
    rw [if_neg fun z => ((later_out w e).mp z).2 l0]
  · exact g
theorem Good.run (g : Good S t v) (b : Bd R S) (ok : R.Ok) (w : Wf R.lines.length [] S) (f : S.first = some h) (ne : t ≠ h) : Good (S.run R 1) t v := by
  obtain ⟨pre, post, e, hv⟩ := g
  obtain ⟨c, c1, c2, c3, c4, c5, c6, c7, _, c8⟩ := run_some (R := R) (m := 1) w f
  have l0 : c.line = 0 := Nat.eq_zero_of_not_pos fun z => by
    have := c4 0 z
    rw [e] at this
    simp at this
  rw [l0, e] at c5
  cases pre with
  | nil => simp at c5; exact absurd c5 ne
  | cons x pre =>
    have : x = h := by simpa using c5
    subst this
    have nd := w.rnd 0
    rw [e] at nd
    have nx : x ∉ pre := fun z => by
      have := (List.nodup_cons.mp (show (x :: (pre ++ t :: post)).Nodup from nd)).1
      exact this (by simp [z])
    have hq : ∀ u ∈ pre, qof (S.run R 1) u = qof S u := fun u hu => qof_eq (by rw [c6, if_neg fun z : u = x => nx (z ▸ hu)])
    have q1 := q0_of b w (u := x) (by rw [e]; simp)
    rw [wk_cons] at hv
    have k := w.key x c c1
    have s := b.sh x c c1
    have q := b.q x c c1 c2
    have cg := chg_one ok rfl k.2.2.1 q ⟨s.1, s.2.1⟩
    have er : ((x :: pre) ++ t :: post).erase x = pre ++ t :: post := by simp
    have r0 := c7 0
    rw [e, er] at r0
    cases hm : mov R.lines.length c 1 with
    | none =>
      rw [hm] at r0
      refine ⟨x :: pre, post, r0, ?_⟩
      rw [wk_cons, wk_congr hq, c8]
      have e1 : qof (S.run R 1) x = qof S x - 1 := by
        unfold qof
        rw [c6, if_pos rfl, c1]
        show (chg R R.lines.length c 1).q = c.q - 1
        unfold chg
        rw [hm]
      omega
    | some l =>
      rw [hm] at r0
      replace r0 : (S.run R 1).row 0 = if 0 = l then pre ++ t :: post ++ [x] else pre ++ t :: post := r0
      by_cases z : 0 = l
      · rw [if_pos z] at r0
        refine ⟨pre, post ++ [x], by rw [r0]; simp, ?_⟩
        rw [wk_congr hq, c8]; omega
      · rw [if_neg z] at r0
        refine ⟨pre, post, r0, ?_⟩
        rw [wk_congr hq, c8]; omega
theorem look_boostNow : look (S.boostNow R).cards u = if S.due R = true then (look S.cards u).map (bst R S u) else look S.cards u := by
  unfold LSt.boostNow
  split
  · exact look_boosted
  · rfl
theorem modify_ne {xs : List Int} {i : Nat} (h : i < xs.length) : xs.modify i (· + 1) ≠ xs := fun e => by
  have := congrArg (·[i]?) e
  replace this : (xs.modify i (· + 1))[i]? = xs[i]? := this
  rw [List.getElem?_modify, List.getElem?_eq_getElem h] at this
  simp at this
  omega
/-- what runs changes its count, what doesn't leaves it -/
theorem tick_sp (ok : R.Ok) (w : Wf R.lines.length [] S) (e : look S.cards t = some c) : ∃ c', look (S.tick R).cards t = some c' ∧ (c'.sp = c.sp ↔ ¬ (S.boostNow R).first = some t) := by
  have wB := w.boostNow' (R := R) ok.one
  obtain ⟨c1, e1, s1⟩ : ∃ c1, look (S.boostNow R).cards t = some c1 ∧ c1.sp = c.sp := by
    rw [look_boostNow, e]
    split
    · exact ⟨_, rfl, rfl⟩
    · exact ⟨_, rfl, rfl⟩
  unfold LSt.tick
  generalize S.boostNow R = B at wB e1 ⊢
  cases f : B.first with
  | none => rw [run_none f]; exact ⟨c1, e1, by simp [s1]⟩
  | some h =>
    obtain ⟨d, d1, _, _, _, _, d6, _⟩ := run_some (R := R) (m := 1) wB f
    rw [d6]
    by_cases z : t = h
    · subst z
      rw [e1] at d1
      cases Option.some.inj d1
      rw [if_pos rfl]
      refine ⟨_, rfl, ?_⟩
      have k := wB.key t c1 e1
      have : (chg R R.lines.length c1 1).sp = c1.sp.modify c1.line (· + 1) := rfl
      rw [this, ← s1]
      have := modify_ne (xs := c1.sp) (i := c1.line) (by rw [k.2.2.2]; exact k.2.2.1)
      simp [this]
    · rw [if_neg z]
      exact ⟨c1, e1, by simp only [s1, true_iff]; exact fun y => z (Option.some.inj y).symm⟩
theorem Good.tick (g : Good S t v) (b : Bd R S) (ok : R.Ok) (w : Wf R.lines.length [] S) (ne : ¬ (S.boostNow R).first = some t) : Good (S.tick R) t v := by
  have wB := w.boostNow' (R := R) ok.one
  have bB := b.boostNow ok w
  have gB := g.boost (R := R) w ok.one
  unfold LSt.tick
  cases f : (S.boostNow R).first with
  | none =>
    have := gB.mem
    rw [first_none.mp f 0] at this
    cases this
  | some h => exact gB.run bB ok wB f fun z => ne (by rw [f, z])
/-- the first of all is the first of the first line that has one -/
theorem first_flat (w : Wf n [] S) : S.first = S.rows.flatten.head? := by
  cases f : S.first with
  | none =>
    have h := first_none.mp f
    have : S.rows.flatten = [] := List.eq_nil_iff_forall_not_mem.mpr fun t ht => by
      obtain ⟨l, hl⟩ := mem_flat.mp ht
      rw [h l] at hl; cases hl
    rw [this]; rfl
  | some t =>
    obtain ⟨c, _, _, c3, c4, c5, _⟩ := run_some (R := ⟨[], none, true⟩) (m := 1) w f
    have hl : c.line < S.rows.length := Classical.byContradiction fun z => by rw [row_out (by omega)] at c3; cases c3
    have e : S.rows = S.rows.take c.line ++ S.row c.line :: S.rows.drop (c.line + 1) := by
      conv => lhs; rw [← List.take_append_drop c.line S.rows, List.drop_eq_getElem_cons hl, ← LSt.row_some (List.getElem?_eq_getElem hl)]
    have e0 : (S.rows.take c.line).flatten = [] := List.eq_nil_iff_forall_not_mem.mpr fun u hu => by
      obtain ⟨xs, hx, hu⟩ := List.mem_flatten.mp hu
      obtain ⟨i, hi, rfl⟩ := List.mem_iff_getElem.mp hx
      rw [List.length_take] at hi
      rw [List.getElem_take, ← LSt.row_some (List.getElem?_eq_getElem (by omega)), c4 i (by omega)] at hu
      cases hu
    rw [e, List.flatten_append, e0, List.flatten_cons, List.nil_append]
    cases hr : S.row c.line with
    | nil => rw [hr] at c5; cases c5
    | cons x r => rw [hr] at c5; exact c5.symm
theorem heads_flat : ∀ xss : List (List Int), (xss.filterMap List.head?).head? = xss.flatten.head?
  | [] => rfl
  | [] :: r => by rw [List.flatten_cons, List.nil_append, ← heads_flat r]; rfl
  | (x :: xs) :: r => rfl
theorem first_tick (ok : R.Ok) (w : Wf R.lines.length [] S) : (S.boostNow R).first = S.rows.flatten.head? := by
  by_cases d : S.due R = true
  · exact (btick ok w d).first
  · unfold LSt.boostNow
    rw [if_neg d]
    exact first_flat w
/-! the dues, as pairs -/
def putI (ps : List (Int × Int)) (t v : Int) : List (Int × Int) := if t ∈ ps.map Prod.fst then ps else ps ++ [(t, v)]
def popI (ps : List (Int × Int)) (t : Int) : List (Int × Int) := ps.filter fun p => decide (p.1 ≠ t)
structure Dues (S : LSt) (ps : List (Int × Int)) : Prop where
  nd : (ps.map Prod.fst).Nodup
  good : ∀ p ∈ ps, Good S p.1 p.2
theorem Dues.nil : Dues S [] := ⟨List.nodup_nil, fun p h => by cases h⟩
theorem Dues.filter {ps : List (Int × Int)} {p : Int × Int → Bool} (d : Dues S ps) : Dues S (ps.filter p) :=
  ⟨d.nd.sublist (List.filter_sublist.map _), fun q h => d.good q (List.mem_filter.mp h).1⟩
theorem Dues.pop {ps : List (Int × Int)} (d : Dues S ps) : Dues S (popI ps t) := d.filter
theorem Dues.act {ps : List (Int × Int)} (d : Dues S ps) (b : Bd R S) (w : Wf R.lines.length [] S) (ok : R.Ok) (a : Act R S h S') : Dues S' (popI ps h) :=
  ⟨d.pop.nd, fun q hq => by
    obtain ⟨h1, h2⟩ := List.mem_filter.mp hq
    exact (d.good q h1).act b w (by simpa using h2) a ok.one⟩
theorem Dues.put {ps : List (Int × Int)} (d : Dues S ps) (b : Bd R S) (w : Wf n [] S) {i : Nat} (hi : (S.row 0)[i]? = some t) : Dues S (putI ps t (S.time + i * R.q 0)) := by
  unfold putI
  split
  · exact d
  · rename_i hn
    refine ⟨?_, fun q hq => ?_⟩
    · rw [List.map_append]
      refine List.nodup_append.mpr ⟨d.nd, by simp, fun a ha b hb e => ?_⟩
      have : b = t := by simpa using hb
      exact hn (by rw [← this, ← e]; exact ha)
    · rcases List.mem_append.mp hq with h1 | h1
      · exact d.good q h1
      · have : q = (t, S.time + i * R.q 0) := by simpa using h1
        rw [this]
        exact Good.set b w hi
theorem Dues.few {ps : List (Int × Int)} (d : Dues S ps) (w : Wf n [] S) : ps.length ≤ 20 := by
  have := Qn.few d.nd fun x hx => by
    obtain ⟨p, hp, rfl⟩ := List.mem_map.mp hx
    obtain ⟨_, c, e, _⟩ := (w.mem 0 p.1).mp (d.good p hp).mem
    exact ⟨(w.key _ c e).1, (w.key _ c e).2.1⟩
  rw [List.length_map] at this
  exact this
end
end Qn

/-! M7: a play, as data; one moment of it. -/
namespace Qn
open PySem L2
structure Ply where
  S : LSt
  left : List (List Int)
  wk : List (Int × List Int)
  found : List (Int × Int × Int × Int)
  ends : List (Option Int)
def addW : List (Int × List Int) → Int → Int → List (Int × List Int)
  | [], m, t => [(m, [t])]
  | p :: r, m, t => if p.1 = m then (p.1, p.2 ++ [t]) :: r else p :: addW r m t
def getW (wk : List (Int × List Int)) (m : Int) : List Int := ((wk.find? fun p => decide (p.1 = m)).map (·.2)).getD []
def delW (wk : List (Int × List Int)) (m : Int) : List (Int × List Int) := wk.filter fun p => decide (p.1 ≠ m)
def sortI (xs : List Int) : List Int := xs.mergeSort fun a b => decide (a ≤ b)
def joinF (fs : List (Int × Int × Int × Int)) (b e t l : Int) : List (Int × Int × Int × Int) := match fs.getLast? with
  | some x => if x.2 = (b, t, l) then fs.dropLast ++ [(x.1, e, t, l)] else fs ++ [(b, e, t, l)]
  | none => fs ++ [(b, e, t, l)]
namespace Ply
def enter1 (R : Rul) (S : LSt) (t : Int) : LSt := if (look S.cards t).isSome then S.wake R t else S.come R t
def enter (R : Rul) (p : Ply) (now : Int) : Ply := { p with S := (sortI (getW p.wk now)).foldl (enter1 R) p.S, wk := delW p.wk now }
def over (p : Ply) (t now : Int) : Ply := match p.left.getD t.toNat [] with
  | _ :: w :: r => { p with S := p.S.wait t, left := p.left.set t.toNat r, wk := addW p.wk (now + w) t }
  | _ => { p with S := p.S.go t, ends := p.ends.set t.toNat (some now) }
def less (p : Ply) (t m : Int) : Ply := { p with left := p.left.set t.toNat (((p.left.getD t.toNat []).headD 0 - m) :: (p.left.getD t.toNat []).tail) }
def note (p : Ply) (ran : Option (Int × Nat)) (b e : Int) : Ply := match ran with
  | none => p
  | some (t, l) => if (p.left.getD t.toNat []).headD 0 - (e - b) = 0 then over { p.less t (e - b) with found := joinF p.found b e t l } t e else { p.less t (e - b) with found := joinF p.found b e t l }
def runTo (R : Rul) (p : Ply) (now later : Int) : Ply := note { p with S := p.S.run R (later - now) } p.S.ran now later
def boost (R : Rul) (p : Ply) : Ply := { p with S := p.S.boostNow R }
def tick (R : Rul) (p : Ply) (now : Int) : Ply := ((p.enter R now).boost R).runTo R now (now + 1)
/-- the moments at which something else may come -/
def nexts (R : Rul) (p : Ply) (now til : Int) : List Int :=
  [til] ++ (p.wk.map Prod.fst).filter (fun m => decide (now < m)) ++ (match R.boost with | none => [] | some b => [now - now % b + b]) ++
    (match p.S.first with | none => [] | some t => [now + (p.S.card t).q, now + (p.S.card t).sh, now + (p.left.getD t.toNat []).headD 0])
def later (R : Rul) (p : Ply) (now til : Int) : Int := (nexts R ((p.enter R now).boost R) now til).foldl min til
def leap (R : Rul) (p : Ply) (now til : Int) : Ply := ((p.enter R now).boost R).runTo R now (p.later R now til)
def begin (S : LSt) (tasks : List (Int × List Int)) : Ply := { S := S, left := tasks.map (·.2), wk := (tasks.zipIdx).foldl (fun w x => addW w x.1.1 (x.2 : Nat)) [], found := [], ends := tasks.map fun _ => none }
def ticks (R : Rul) (p : Ply) : Nat → Ply
  | 0 => p
  | n + 1 => (ticks R p n).tick R n
end Ply
/-! ### sorted -/
theorem sortI_perm (xs : List Int) : (sortI xs).Perm xs := List.mergeSort_perm _ _
theorem sortI_le (xs : List Int) : (sortI xs).Pairwise (· ≤ ·) := by
  have h := List.pairwise_mergeSort (le := fun a b : Int => decide (a ≤ b)) (fun a b c h1 h2 => by simp only [decide_eq_true_eq] at h1 h2 ⊢; omega) (fun a b => by simp only [Bool.or_eq_true, decide_eq_true_eq]; omega) xs
  exact h.imp fun z => by simpa using z
theorem sortI_uniq {xs ys : List Int} (h : ys.Pairwise (· ≤ ·)) (p : ys.Perm xs) : ys = sortI xs :=
  List.Perm.eq_of_pairwise (le := (· ≤ ·)) (fun a b _ _ u v => by omega) h (sortI_le xs) (p.trans (sortI_perm xs).symm)
/-! ### the moments at which tasks come -/
section
variable {wk : List (Int × List Int)} {m m' t : Int} {ts : List Int}
theorem addW_keys : (addW wk m t).map Prod.fst = if m ∈ wk.map Prod.fst then wk.map Prod.fst else wk.map Prod.fst ++ [m] := by
  induction wk with
  | nil => rfl
  | cons p r ih =>
    unfold addW
    by_cases e : p.1 = m
    · rw [if_pos e]; simp [e]
    · rw [if_neg e, List.map_cons, List.map_cons, ih]
      by_cases h : m ∈ r.map Prod.fst
      · rw [if_pos h, if_pos (List.mem_cons_of_mem _ h)]
      · rw [if_neg h, if_neg fun z => by exact (List.mem_cons.mp z).elim (fun z => e z.symm) h]; rfl
theorem addW_nodup (h : (wk.map Prod.fst).Nodup) : ((addW wk m t).map Prod.fst).Nodup := by
  rw [addW_keys]
  split
  · exact h
  · rename_i n
    exact List.nodup_append.mpr ⟨h, by simp, fun a ha b hb e => n ((List.mem_singleton.mp hb) ▸ e ▸ ha)⟩
theorem addW_flat : ((addW wk m t).map Prod.snd).flatten.Perm (t :: (wk.map Prod.snd).flatten) := by
  induction wk with
  | nil => exact List.Perm.refl _
  | cons p r ih =>
    unfold addW
    by_cases e : p.1 = m
    · rw [if_pos e]
      simp only [List.map_cons, List.flatten_cons, List.append_assoc]
      exact List.perm_middle
    · rw [if_neg e]
      simp only [List.map_cons, List.flatten_cons]
      exact (ih.append_left p.2).trans List.perm_middle
theorem getW_mem (h : getW wk m = ts) (ne : ts ≠ []) : (m, ts) ∈ wk := by
  unfold getW at h
  cases e : wk.find? fun p => decide (p.1 = m) with
  | none => rw [e] at h; exact absurd h.symm ne
  | some p =>
    rw [e] at h
    have h1 := List.mem_of_find?_eq_some e
    have h2 := List.find?_some e
    have : p = (m, ts) := by
      rw [← h, ← of_decide_eq_true h2]; rfl
    rw [← this]; exact h1
theorem getW_flat : ∀ {wk : List (Int × List Int)}, (wk.map Prod.fst).Nodup → (wk.map Prod.snd).flatten.Perm (getW wk m ++ ((delW wk m).map Prod.snd).flatten)
  | [], _ => List.Perm.refl _
  | p :: r, nd => by
    have nd' := List.nodup_cons.mp (show (p.1 :: r.map Prod.fst).Nodup from nd)
    by_cases e : p.1 = m
    · have e1 : getW (p :: r) m = p.2 := by unfold getW; rw [List.find?_cons_of_pos (by simpa using e)]; rfl
      have e2 : delW (p :: r) m = r := by
        unfold delW
        rw [List.filter_cons_of_neg (by simpa using e)]
        refine List.filter_eq_self.mpr fun q hq => ?_
        have : q.1 ≠ m := fun z => nd'.1 (by rw [e, ← z]; exact List.mem_map.mpr ⟨q, hq, rfl⟩)
        simpa using this
      rw [e1, e2]; exact List.Perm.refl _
    · have e1 : getW (p :: r) m = getW r m := by unfold getW; rw [List.find?_cons_of_neg (by simpa using e)]
      have e2 : delW (p :: r) m = p :: delW r m := by unfold delW; rw [List.filter_cons_of_pos (by simpa using e)]
      rw [e1, e2]
      simp only [List.map_cons, List.flatten_cons]
      refine ((getW_flat nd'.2).append_left p.2).trans ?_
      rw [← List.append_assoc, ← List.append_assoc]
      exact List.perm_append_comm.append_right _
end
/-- tasks that may come now -/
structure EnOk (p : Ply) (now : Int) : Prop where
  nd : (getW p.wk now).Nodup
  ok : ∀ t ∈ getW p.wk now, 0 ≤ t ∧ t ≤ 19 ∧ ∀ c, look p.S.cards t = some c → c.rdy = false
/-- who may run -/
def RunOk (p : Ply) : Prop := ∀ t, p.S.first = some t → ∃ (i : Nat) (xs : List Int), t = i ∧ p.left[i]? = some xs ∧ xs.length % 2 = 1 ∧ xs.length ≤ 1000 ∧ i < p.ends.length
def BurOk (bs : List Int) : Prop := bs.length % 2 = 1 ∧ bs.length ≤ 9 ∧ ∀ x ∈ bs, 1 ≤ x ∧ x ≤ 40
def TasksOk (ts : List (Int × List Int)) : Prop := ts.length ≤ 12 ∧ ∀ x ∈ ts, 0 ≤ x.1 ∧ x.1 ≤ 400 ∧ BurOk x.2
end Qn

/-! M8: what stays true of a play. -/
namespace Qn
open PySem L2
/-- ahead of a moment; busy: the tasks that may come within it are taken out -/
structure PInv (R : Rul) (n : Nat) (p : Ply) (now : Int) : Prop where
  wf : Wf R.lines.length [] p.S
  bd : Bd R p.S
  nl : p.left.length = n
  ne : p.ends.length = n
  n12 : n ≤ 12
  lf : ∀ (i : Nat) (xs : List Int), p.left[i]? = some xs → xs.length % 2 = 1 ∧ xs.length ≤ 9 ∧ ∀ x ∈ xs, 0 ≤ x ∧ x ≤ 40
  lp : ∀ (i : Nat) (xs : List Int), p.left[i]? = some xs → ((i : Int) ∈ (p.wk.map Prod.snd).flatten ∨ look p.S.cards i ≠ none) → ∀ x ∈ xs, 1 ≤ x
  kn : (p.wk.map Prod.fst).Nodup
  wn : ((p.wk.map Prod.snd).flatten).Nodup
  wt : ∀ t ∈ (p.wk.map Prod.snd).flatten, 0 ≤ t ∧ t < n ∧ ∀ c, look p.S.cards t = some c → c.rdy = false
  wm : ∀ x ∈ p.wk, now ≤ x.1 ∧ x.2 ≠ []
  cn : ∀ t c, look p.S.cards t = some c → 0 ≤ t ∧ t < n ∧ (c.rdy = false → t ∈ (p.wk.map Prod.snd).flatten)
section
variable {R : Rul} {p : Ply} {n : Nat} {now t : Int}
theorem flat_lenW (h : ((p.wk.map Prod.snd).flatten).Nodup) (k : ∀ t ∈ (p.wk.map Prod.snd).flatten, 0 ≤ t ∧ t < n) (n12 : n ≤ 12) : ((p.wk.map Prod.snd).flatten).length ≤ 20 := few h fun t ht => by
  have := k t ht
  omega
theorem PInv.flat (h : PInv R n p now) : ((p.wk.map Prod.snd).flatten).length ≤ 20 := flat_lenW h.wn (fun t ht => ⟨(h.wt t ht).1, (h.wt t ht).2.1⟩) h.n12
theorem len_flat : ∀ {wk : List (Int × List Int)}, (∀ x ∈ wk, x.2 ≠ []) → wk.length ≤ ((wk.map Prod.snd).flatten).length
  | [], _ => Nat.zero_le _
  | x :: r, h => by
    have := len_flat (wk := r) fun y hy => h y (List.mem_cons_of_mem _ hy)
    have h0 := List.length_pos_iff.mpr (h x List.mem_cons_self)
    simp only [List.map_cons, List.flatten_cons, List.length_append, List.length_cons]
    omega
theorem PInv.few (h : PInv R n p now) : p.wk.length ≤ 20 := Nat.le_trans (len_flat fun x hx => (h.wm x hx).2) h.flat
theorem PInv.enOk (h : PInv R n p now) (m : Int) : EnOk p m := by
  have pm := getW_flat (m := m) h.kn
  have nd := pm.nodup_iff.mp h.wn
  refine ⟨(List.nodup_append.mp nd).1, fun t ht => ?_⟩
  have := h.wt t (pm.mem_iff.mpr (List.mem_append_left _ ht))
  have := h.n12
  exact ⟨by omega, by omega, (h.wt t (pm.mem_iff.mpr (List.mem_append_left _ ht))).2.2⟩
theorem PInv.runOk (h : PInv R n p now) : RunOk p := fun t f => by
  obtain ⟨c, c1, _⟩ := run_some (R := R) (m := 1) h.wf f
  obtain ⟨t0, t1, _⟩ := h.cn t c c1
  have hi : t.toNat < p.left.length := by rw [h.nl]; omega
  have hx : p.left[t.toNat]? = some p.left[t.toNat] := List.getElem?_eq_getElem hi
  obtain ⟨l1, l2, _⟩ := h.lf _ _ hx
  exact ⟨t.toNat, _, by omega, hx, l1, by omega, by rw [h.ne]; omega⟩
/-- a boost changes no task's state -/
theorem PInv.boost (h : PInv R n p now) (ok : R.Ok) : PInv R n (p.boost R) now := by
  have lk : ∀ u c, look (p.S.boostNow R).cards u = some c → ∃ c', look p.S.cards u = some c' ∧ c'.rdy = c.rdy := fun u c e => by
    unfold LSt.boostNow at e
    split at e
    · rw [look_boosted] at e
      cases e2 : look p.S.cards u with
      | none => rw [e2] at e; cases e
      | some c' => rw [e2] at e; exact ⟨c', rfl, by rw [← Option.some.inj e]; rfl⟩
    · exact ⟨c, e, rfl⟩
  exact ⟨h.wf.boostNow' ok.one, h.bd.boostNow ok h.wf, h.nl, h.ne, h.n12, h.lf, fun i xs e o => h.lp i xs e (o.imp id fun z y => by
    cases e2 : look (p.boost R).S.cards i with
    | none => exact z e2
    | some c =>
      obtain ⟨c', e1, _⟩ := lk i c e2
      rw [e1] at y; cases y), h.kn, h.wn, fun t ht => ⟨(h.wt t ht).1, (h.wt t ht).2.1, fun c e => by
    obtain ⟨c', e1, e2⟩ := lk t c e
    rw [← e2]; exact (h.wt t ht).2.2 c' e1⟩, h.wm, fun t c e => by
    obtain ⟨c', e1, e2⟩ := lk t c e
    obtain ⟨a1, a2, a3⟩ := h.cn t c' e1
    exact ⟨a1, a2, fun r => a3 (e2.trans r)⟩⟩
theorem look_ent {ts : List Int} {S : LSt} (h : t ∉ ts) : look (ts.foldl (Ply.enter1 R) S).cards t = look S.cards t := by
  induction ts generalizing S with
  | nil => rfl
  | cons u r ih =>
    have h' : t ≠ u ∧ t ∉ r := ⟨List.ne_of_not_mem_cons h, List.not_mem_of_not_mem_cons h⟩
    rw [List.foldl_cons, ih h'.2]
    unfold Ply.enter1
    split
    · rename_i z
      obtain ⟨c, e⟩ := Option.isSome_iff_exists.mp z
      rw [look_wake e, if_neg h'.1]
    · rename_i z
      rw [look_come (by simpa using z), if_neg h'.1]
theorem look_in {ts : List Int} {S : LSt} (nd : ts.Nodup) (h : t ∈ ts) : ∃ c, look (ts.foldl (Ply.enter1 R) S).cards t = some c ∧ c.rdy = true := by
  induction ts generalizing S with
  | nil => cases h
  | cons u r ih =>
    have nd' := List.nodup_cons.mp nd
    rw [List.foldl_cons]
    by_cases e : t = u
    · subst e
      rw [look_ent nd'.1]
      unfold Ply.enter1
      split
      · rename_i z
        obtain ⟨c, e⟩ := Option.isSome_iff_exists.mp z
        exact ⟨_, by rw [look_wake e, if_pos rfl], rfl⟩
      · rename_i z
        exact ⟨_, by rw [look_come (by simpa using z), if_pos rfl], rfl⟩
    · exact ih nd'.2 (List.mem_of_ne_of_mem e h)
theorem ent_wf {ts : List Int} {S : LSt} (ok : R.Ok) (nd : ts.Nodup) (h : ∀ t ∈ ts, 0 ≤ t ∧ t ≤ 19 ∧ ∀ c, look S.cards t = some c → c.rdy = false) (w : Wf R.lines.length [] S) (b : Bd R S) :
    Wf R.lines.length [] (ts.foldl (Ply.enter1 R) S) ∧ Bd R (ts.foldl (Ply.enter1 R) S) := by
  induction ts generalizing S with
  | nil => exact ⟨w, b⟩
  | cons u r ih =>
    have nd' := List.nodup_cons.mp nd
    obtain ⟨u0, u1, ur⟩ := h u List.mem_cons_self
    rw [List.foldl_cons]
    have hw : Wf R.lines.length [] (Ply.enter1 R S u) ∧ Bd R (Ply.enter1 R S u) := by
      unfold Ply.enter1
      split
      · rename_i z
        obtain ⟨c, e⟩ := Option.isSome_iff_exists.mp z
        exact ⟨w.wake e (ur c e), b.wake ok w e⟩
      · rename_i z
        have e : look S.cards u = none := by simpa using z
        exact ⟨w.come e ⟨u0, u1⟩ ok.one, b.come ok e⟩
    refine ih nd'.2 (fun t ht => ?_) hw.1 hw.2
    have ne : t ∉ [u] := fun z => nd'.1 ((List.mem_singleton.mp z) ▸ ht)
    have e : look (Ply.enter1 R S u).cards t = look S.cards t := look_ent (ts := [u]) (R := R) ne
    rw [e]
    exact h t (List.mem_cons_of_mem _ ht)
theorem PInv.enter (h : PInv R n p now) (ok : R.Ok) : PInv R n (p.enter R now) now ∧ ∀ x ∈ (p.enter R now).wk, now < x.1 := by
  have pm := getW_flat (m := now) h.kn
  have nd := pm.nodup_iff.mp h.wn
  obtain ⟨nd1, nd2, nd3⟩ := List.nodup_append.mp nd
  have sp := sortI_perm (getW p.wk now)
  have ndS := sp.nodup_iff.mpr nd1
  have eo := h.enOk now
  obtain ⟨w, b⟩ := ent_wf (S := p.S) ok ndS (fun t ht => eo.ok t (sp.mem_iff.mp ht)) h.wf h.bd
  have inW : ∀ t, t ∈ sortI (getW p.wk now) → t ∈ (p.wk.map Prod.snd).flatten := fun t ht => pm.mem_iff.mpr (List.mem_append_left _ (sp.mem_iff.mp ht))
  have inD : ∀ t, t ∈ ((delW p.wk now).map Prod.snd).flatten → t ∈ (p.wk.map Prod.snd).flatten := fun t ht => pm.mem_iff.mpr (List.mem_append_right _ ht)
  have dis : ∀ t, t ∈ ((delW p.wk now).map Prod.snd).flatten → t ∉ sortI (getW p.wk now) := fun t ht z => nd3 t (sp.mem_iff.mp z) t ht rfl
  refine ⟨⟨w, b, h.nl, h.ne, h.n12, h.lf, fun i xs e o => ?_, h.kn.sublist (List.filter_sublist.map _), nd2, fun t ht => ?_, fun x hx => h.wm x (List.mem_filter.mp hx).1, fun t c e => ?_⟩, fun x hx => ?_⟩
  · rcases o with o | o
    · exact h.lp i xs e (.inl (inD _ o))
    · by_cases z : (i : Int) ∈ sortI (getW p.wk now)
      · exact h.lp i xs e (.inl (inW _ z))
      · have e2 : look ((sortI (getW p.wk now)).foldl (Ply.enter1 R) p.S).cards i = look p.S.cards i := look_ent z
        exact h.lp i xs e (.inr (e2 ▸ o))
  · obtain ⟨a1, a2, a3⟩ := h.wt t (inD t ht)
    refine ⟨a1, a2, fun c e => a3 c ?_⟩
    have e2 : look ((sortI (getW p.wk now)).foldl (Ply.enter1 R) p.S).cards t = look p.S.cards t := look_ent (dis t ht)
    exact e2 ▸ e
  · by_cases z : t ∈ sortI (getW p.wk now)
    · obtain ⟨a1, a2, _⟩ := h.wt t (inW t z)
      refine ⟨a1, a2, fun r => ?_⟩
      obtain ⟨c', e1, e2⟩ := look_in (R := R) (S := p.S) ndS z
      have e3 : some c' = some c := e1.symm.trans e
      rw [Option.some.inj e3] at e2
      rw [e2] at r; cases r
    · have e2 : look ((sortI (getW p.wk now)).foldl (Ply.enter1 R) p.S).cards t = look p.S.cards t := look_ent z
      obtain ⟨a1, a2, a3⟩ := h.cn t c (e2 ▸ e)
      refine ⟨a1, a2, fun r => ?_⟩
      rcases List.mem_append.mp (pm.mem_iff.mp (a3 r)) with y | y
      · exact absurd (sp.mem_iff.mpr y) z
      · exact y
  · obtain ⟨h1, h2⟩ := List.mem_filter.mp hx
    have := (h.wm x h1).1
    have : x.1 ≠ now := by simpa using h2
    omega
theorem addWs_flat : ∀ {xs : List ((Int × List Int) × Nat)} {w : List (Int × List Int)}, (((xs.foldl (fun w x => addW w x.1.1 (x.2 : Nat)) w).map Prod.snd).flatten).Perm ((w.map Prod.snd).flatten ++ xs.map fun x => (x.2 : Int))
  | [], w => by simp
  | x :: r, w => by
    rw [List.foldl_cons]
    refine (addWs_flat (xs := r) (w := addW w x.1.1 x.2)).trans ?_
    refine ((addW_flat (wk := w) (m := x.1.1) (t := x.2)).append_right _).trans ?_
    rw [List.map_cons, List.cons_append]
    exact List.perm_middle.symm
theorem addWs_nodup : ∀ {xs : List ((Int × List Int) × Nat)} {w : List (Int × List Int)}, (w.map Prod.fst).Nodup → ((xs.foldl (fun w x => addW w x.1.1 (x.2 : Nat)) w).map Prod.fst).Nodup
  | [], w, h => h
  | x :: r, w, h => addWs_nodup (xs := r) (addW_nodup h)
theorem addWs_mem : ∀ {xs : List ((Int × List Int) × Nat)} {w : List (Int × List Int)}, (∀ x ∈ w, 0 ≤ x.1 ∧ x.2 ≠ []) → (∀ x ∈ xs, 0 ≤ x.1.1) → ∀ x ∈ xs.foldl (fun w x => addW w x.1.1 (x.2 : Nat)) w, 0 ≤ x.1 ∧ x.2 ≠ []
  | [], w, h, _ => h
  | y :: r, w, h, k => by
    refine addWs_mem (xs := r) (w := addW w y.1.1 y.2) ?_ fun x hx => k x (List.mem_cons_of_mem _ hx)
    have y0 := k y List.mem_cons_self
    have : ∀ {w : List (Int × List Int)}, (∀ x ∈ w, 0 ≤ x.1 ∧ x.2 ≠ []) → ∀ x ∈ addW w y.1.1 (y.2 : Int), 0 ≤ x.1 ∧ x.2 ≠ [] := by
      intro w
      induction w with
      | nil =>
        intro _ x hx
        have : x = (y.1.1, [(y.2 : Int)]) := by simpa [addW] using hx
        rw [this]; exact ⟨y0, by simp⟩
      | cons p r ih =>
        intro h x hx
        unfold addW at hx
        by_cases e : p.1 = y.1.1
        · rw [if_pos e] at hx
          rcases List.mem_cons.mp hx with z | z
          · rw [z]; exact ⟨(h p List.mem_cons_self).1, by simp⟩
          · exact h x (List.mem_cons_of_mem _ z)
        · rw [if_neg e] at hx
          rcases List.mem_cons.mp hx with z | z
          · rw [z]; exact h p List.mem_cons_self
          · exact ih (fun x hx => h x (List.mem_cons_of_mem _ hx)) x z
    exact this h
theorem PInv.begin {S : LSt} {ts : List (Int × List Int)} (wf : Wf R.lines.length [] S) (hc : S.cards = []) (tok : TasksOk ts) : PInv R ts.length (Ply.begin S ts) 0 := by
  obtain ⟨h12, ho⟩ := tok
  have pf := addWs_flat (xs := ts.zipIdx) (w := [])
  have hidx : (ts.zipIdx.map fun x => (x.2 : Int)) = (List.range ts.length).map fun i : Nat => (i : Int) := by
    apply List.ext_getElem
    · simp
    · intro i h1 h2; simp
  have pf2 : (((Ply.begin S ts).wk.map Prod.snd).flatten).Perm ((List.range ts.length).map fun i : Nat => (i : Int)) := by
    rw [← hidx]; exact pf
  have noc : ∀ t, look S.cards t = none := fun t => by rw [hc]; rfl
  have inn : ∀ t ∈ ((Ply.begin S ts).wk.map Prod.snd).flatten, 0 ≤ t ∧ t < ts.length := fun t ht => by
    obtain ⟨i, hi, rfl⟩ := List.mem_map.mp (pf2.mem_iff.mp ht)
    have := List.mem_range.mp hi
    omega
  have bo : ∀ (i : Nat) (xs : List Int), (Ply.begin S ts).left[i]? = some xs → BurOk xs := fun i xs e => by
    have e' : (ts.map (·.2))[i]? = some xs := e
    rw [List.getElem?_map] at e'
    obtain ⟨x, h1, rfl⟩ := Option.map_eq_some_iff.mp e'
    exact (ho x (List.mem_of_getElem? h1)).2.2
  refine ⟨wf, Bd.empty hc, by show (ts.map (·.2)).length = _; simp, by show (ts.map fun _ => (none : Option Int)).length = _; simp, h12, fun i xs e => ?_, fun i xs e _ x hx => ((bo i xs e).2.2 x hx).1, addWs_nodup (xs := ts.zipIdx) (w := []) List.nodup_nil, ?_, fun t ht => ⟨(inn t ht).1, (inn t ht).2, fun c e => ?_⟩,
    addWs_mem (xs := ts.zipIdx) (w := []) (fun x hx => by cases hx) fun x hx => ?_, fun t c e => ?_⟩
  · obtain ⟨b1, b2, b3⟩ := bo i xs e
    exact ⟨b1, b2, fun x hx => ⟨by have := (b3 x hx).1; omega, (b3 x hx).2⟩⟩
  · refine pf2.nodup_iff.mpr ?_
    exact List.Pairwise.map _ (fun a b (h : a ≠ b) z => h (Int.ofNat.inj z)) List.nodup_range
  · have : look S.cards t = some c := e
    rw [noc t] at this; cases this
  · have := (List.mem_zipIdx' hx).2
    exact (ho x.1 (by rw [this]; exact List.getElem_mem _)).1
  · have : look S.cards t = some c := e
    rw [noc t] at this; cases this
end
end Qn

/-! M9: what stays true of a play behind a moment. -/
namespace Qn
open PySem L2
theorem join_len {fs : List (Int × Int × Int × Int)} {b e t l : Int} : (joinF fs b e t l).length ≤ fs.length + 1 := by
  unfold joinF
  split
  · split
    · simp only [List.length_append, List.length_dropLast, List.length_cons, List.length_nil]; omega
    · simp
  · simp
section
variable {R : Rul} {p : Ply} {n : Nat} {now t : Int} {c : Card} {l : Nat} {b : Int}
theorem ran_some (f : p.S.first = some t) : p.S.ran = some (t, (p.S.card t).line) := by unfold LSt.ran; rw [f]
theorem ran_none (f : p.S.first = none) : p.S.ran = none := by unfold LSt.ran; rw [f]
theorem PInv.run (h : PInv R n p now) (ok : R.Ok) (hs : ∀ x ∈ p.wk, now < x.1) : PInv R n { p with S := p.S.run R 1 } (now + 1) := by
  have lk : ∀ u c, look (p.S.run R 1).cards u = some c → ∃ c', look p.S.cards u = some c' ∧ c'.rdy = c.rdy := fun u c e => by
    cases f : p.S.first with
    | none => rw [run_none f] at e; exact ⟨c, e, rfl⟩
    | some t =>
      obtain ⟨c0, c1, c2, _, _, _, c3, _⟩ := run_some (R := R) (m := 1) h.wf f
      rw [c3] at e
      by_cases z : u = t
      · rw [if_pos z] at e
        rw [← Option.some.inj e, z]; exact ⟨c0, c1, rfl⟩
      · rw [if_neg z] at e; exact ⟨c, e, rfl⟩
  exact ⟨h.wf.run ok.one, h.bd.run ok h.wf, h.nl, h.ne, h.n12, h.lf, fun i xs e o => h.lp i xs e (o.imp id fun z y => by
    cases e2 : look (p.S.run R 1).cards i with
    | none => exact z e2
    | some c =>
      obtain ⟨c', e1, _⟩ := lk i c e2
      rw [e1] at y; cases y), h.kn, h.wn, fun t ht => ⟨(h.wt t ht).1, (h.wt t ht).2.1, fun c e => by
    obtain ⟨c', e1, e2⟩ := lk t c e
    rw [← e2]; exact (h.wt t ht).2.2 c' e1⟩, fun x hx => ⟨hs x hx, (h.wm x hx).2⟩, fun t c e => by
    obtain ⟨c', e1, e2⟩ := lk t c e
    obtain ⟨a1, a2, a3⟩ := h.cn t c' e1
    exact ⟨a1, a2, fun r => a3 (e2.trans r)⟩⟩
theorem addW_ok {wk : List (Int × List Int)} {m t b : Int} (h : ∀ x ∈ wk, b ≤ x.1 ∧ x.2 ≠ []) (hm : b ≤ m) : ∀ x ∈ addW wk m t, b ≤ x.1 ∧ x.2 ≠ [] := by
  induction wk with
  | nil =>
    intro x hx
    have : x = (m, [t]) := by simpa [addW] using hx
    rw [this]; exact ⟨hm, by simp⟩
  | cons p r ih =>
    intro x hx
    unfold addW at hx
    by_cases e : p.1 = m
    · rw [if_pos e] at hx
      rcases List.mem_cons.mp hx with z | z
      · rw [z]; exact ⟨(h p List.mem_cons_self).1, by simp⟩
      · exact h x (List.mem_cons_of_mem _ z)
    · rw [if_neg e] at hx
      rcases List.mem_cons.mp hx with z | z
      · rw [z]; exact h p List.mem_cons_self
      · exact ih (fun x hx => h x (List.mem_cons_of_mem _ hx)) x z
/-- what a note makes of a play in which t has a card and is ready, at its three ends -/
theorem PInv.note (h : PInv R n p now) (c1 : look p.S.cards t = some c) (r : c.rdy = true) (hb : now - b = 1) : PInv R n (p.note (some (t, l)) b now) now ∧ (p.note (some (t, l)) b now).found = joinF p.found b now t l := by
  obtain ⟨t0, t1, _⟩ := h.cn t c c1
  obtain ⟨i, rfl⟩ := Int.eq_ofNat_of_zero_le t0
  have hi : i < p.left.length := by rw [h.nl]; omega
  have ti : ((i : Int)).toNat = i := Int.toNat_natCast i
  have hx : p.left[i]? = some p.left[i] := List.getElem?_eq_getElem hi
  have gd : p.left.getD i [] = p.left[i] := by rw [List.getD_eq_getElem?_getD, hx]; rfl
  obtain ⟨l1, l2, l3⟩ := h.lf _ _ hx
  have l4 := h.lp _ _ hx (.inr (by rw [c1]; exact fun z => by cases z))
  have nw : (i : Int) ∉ (p.wk.map Prod.snd).flatten := fun z => by
    have := (h.wt _ z).2.2 c c1
    rw [r] at this; cases this
  cases ex : p.left[i] with
  | nil => rw [ex] at l1; simp at l1
  | cons x tl =>
  rw [ex] at l1 l2 l3 l4 hx gd
  have x1 := l4 x List.mem_cons_self
  have x4 := (l3 x List.mem_cons_self).2
  unfold Ply.note
  dsimp only
  rw [ti, hb, gd, List.headD_cons]
  unfold Ply.less
  rw [ti, gd, List.headD_cons, List.tail_cons]
  by_cases z : x - 1 = 0
  · rw [if_pos z]
    unfold Ply.over
    dsimp only
    rw [ti]
    rw [List.getD_eq_getElem?_getD, List.getElem?_set_self hi, Option.getD_some]
    cases tl with
    | nil =>
      dsimp only
      refine ⟨⟨h.wf.go c1, h.bd.go, by show (p.left.set _ _).length = n; rw [List.length_set]; exact h.nl, by show (p.ends.set _ _).length = n; rw [List.length_set]; exact h.ne, h.n12, fun j xs e => ?_, fun j xs e o => ?_, h.kn, h.wn, fun t ht => ?_, h.wm, fun u d e => ?_⟩, rfl⟩
      · have e' : (p.left.set i [x - 1])[j]? = some xs := e
        rw [List.getElem?_set] at e'
        split at e'
        · rw [← Option.some.inj e']
          refine ⟨rfl, by simp, fun y hy => ?_⟩
          rw [List.mem_singleton.mp hy]; omega
        · exact h.lf j xs e'
      · have e' : (p.left.set i [x - 1])[j]? = some xs := e
        have o' : (j : Int) ∈ (p.wk.map Prod.snd).flatten ∨ look (p.S.go i).cards j ≠ none := o
        rw [look_go] at o'
        have ji : j ≠ i := fun q => by
          subst q
          rcases o' with o' | o'
          · exact nw o'
          · exact o' (if_pos rfl)
        rw [List.getElem?_set_ne (Ne.symm ji)] at e'
        rw [if_neg (fun q => ji (by omega))] at o'
        exact h.lp j xs e' o'
      · obtain ⟨a1, a2, a3⟩ := h.wt t ht
        refine ⟨a1, a2, fun d e => ?_⟩
        have e' : look (p.S.go i).cards t = some d := e
        rw [look_go] at e'
        by_cases q : t = (i : Int)
        · rw [if_pos q] at e'; cases e'
        · rw [if_neg q] at e'; exact a3 d e'
      · have e' : look (p.S.go i).cards u = some d := e
        rw [look_go] at e'
        by_cases q : u = (i : Int)
        · rw [if_pos q] at e'; cases e'
        · rw [if_neg q] at e'; exact h.cn u d e'
    | cons w rr =>
      dsimp only
      rw [List.set_set]
      have w1 := l4 w (by simp)
      have rl : rr.length % 2 = 1 ∧ rr.length ≤ 9 ∧ (∀ y ∈ rr, 0 ≤ y ∧ y ≤ 40) ∧ ∀ y ∈ rr, 1 ≤ y := by
        simp only [List.length_cons] at l1 l2
        refine ⟨by omega, by omega, fun y hy => l3 y (by simp [hy]), fun y hy => l4 y (by simp [hy])⟩
      have fl := addW_flat (wk := p.wk) (m := now + w) (t := (i : Int))
      refine ⟨⟨h.wf.wait c1, h.bd.wait, by show (p.left.set _ _).length = n; rw [List.length_set]; exact h.nl, h.ne, h.n12, fun j xs e => ?_, fun j xs e o => ?_, addW_nodup h.kn, ?_, fun t ht => ?_, addW_ok h.wm (by omega), fun u d e => ?_⟩, rfl⟩
      · have e' : (p.left.set i rr)[j]? = some xs := e
        rw [List.getElem?_set] at e'
        split at e'
        · rw [← Option.some.inj e']
          exact ⟨rl.1, rl.2.1, rl.2.2.1⟩
        · exact h.lf j xs e'
      · have e' : (p.left.set i rr)[j]? = some xs := e
        rw [List.getElem?_set] at e'
        by_cases ji : i = j
        · rw [if_pos ji, if_pos hi] at e'
          rw [← Option.some.inj e']
          exact rl.2.2.2
        · rw [if_neg ji] at e'
          refine h.lp j xs e' ?_
          rcases o with o | o
          · have o' : (j : Int) ∈ ((addW p.wk (now + w) i).map Prod.snd).flatten := o
            rcases List.mem_cons.mp (fl.mem_iff.mp o') with y | y
            · exact absurd (show i = j by omega) ji
            · exact .inl y
          · have o' : look (p.S.wait i).cards j ≠ none := o
            rw [look_wait, if_neg (fun q => ji (by omega))] at o'
            exact .inr o'
      · exact fl.nodup_iff.mpr (List.nodup_cons.mpr ⟨nw, h.wn⟩)
      · have ht' : t ∈ ((addW p.wk (now + w) i).map Prod.snd).flatten := ht
        have look' : ∀ d, look (p.S.wait i).cards t = some d → (t = (i : Int) ∧ d.rdy = false) ∨ (t ≠ (i : Int) ∧ look p.S.cards t = some d) := fun d e => by
          rw [look_wait] at e
          by_cases q : t = (i : Int)
          · rw [if_pos q] at e
            obtain ⟨d', _, e2⟩ := Option.map_eq_some_iff.mp e
            rw [← e2]; exact .inl ⟨q, rfl⟩
          · rw [if_neg q] at e; exact .inr ⟨q, e⟩
        rcases List.mem_cons.mp (fl.mem_iff.mp ht') with y | y
        · subst y
          refine ⟨by omega, t1, fun d e => ?_⟩
          rcases look' d e with q | q
          · exact q.2
          · exact absurd rfl q.1
        · obtain ⟨a1, a2, a3⟩ := h.wt t y
          refine ⟨a1, a2, fun d e => ?_⟩
          rcases look' d e with q | q
          · exact q.2
          · exact a3 d q.2
      · have e' : look (p.S.wait i).cards u = some d := e
        rw [look_wait] at e'
        by_cases q : u = (i : Int)
        · exact ⟨by omega, by omega, fun _ => by rw [q]; exact fl.mem_iff.mpr List.mem_cons_self⟩
        · rw [if_neg q] at e'
          obtain ⟨a1, a2, a3⟩ := h.cn u d e'
          exact ⟨a1, a2, fun r => fl.mem_iff.mpr (List.mem_cons_of_mem _ (a3 r))⟩
  · rw [if_neg z]
    refine ⟨⟨h.wf, h.bd, by show (p.left.set _ _).length = n; rw [List.length_set]; exact h.nl, h.ne, h.n12, fun j xs e => ?_, fun j xs e o => ?_, h.kn, h.wn, h.wt, h.wm, h.cn⟩, rfl⟩
    · have e' : (p.left.set i ((x - 1) :: tl))[j]? = some xs := e
      rw [List.getElem?_set] at e'
      split at e'
      · rw [← Option.some.inj e']
        refine ⟨by simpa using l1, by simpa using l2, fun y hy => ?_⟩
        rcases List.mem_cons.mp hy with q | q
        · omega
        · exact l3 y (List.mem_cons_of_mem _ q)
      · exact h.lf j xs e'
    · have e' : (p.left.set i ((x - 1) :: tl))[j]? = some xs := e
      rw [List.getElem?_set] at e'
      split at e'
      · rw [← Option.some.inj e']
        intro y hy
        rcases List.mem_cons.mp hy with q | q
        · omega
        · exact l4 y (List.mem_cons_of_mem _ q)
      · exact h.lp j xs e' o
theorem PInv.runTo (h : PInv R n p now) (ok : R.Ok) (hs : ∀ x ∈ p.wk, now < x.1) : PInv R n (p.runTo R now (now + 1)) (now + 1) ∧ (p.runTo R now (now + 1)).found.length ≤ p.found.length + 1 := by
  have g := h.run ok hs
  unfold Ply.runTo
  rw [show now + 1 - now = 1 by omega]
  cases f : p.S.first with
  | none =>
    rw [ran_none f]
    exact ⟨g, Nat.le_succ _⟩
  | some t =>
    rw [ran_some f]
    obtain ⟨c, c1, c2, _, _, _, c3, _⟩ := run_some (R := R) (m := 1) h.wf f
    have e2 : look (p.S.run R 1).cards t = some (chg R R.lines.length c 1) := by rw [c3, if_pos rfl]
    have e3 := g.note (l := (p.S.card t).line) (b := now) (t := t) e2 (show c.rdy = true from c2) (by omega)
    exact ⟨e3.1, by rw [e3.2]; exact join_len⟩
theorem PInv.tick (h : PInv R n p now) (ok : R.Ok) : PInv R n (p.tick R now) (now + 1) ∧ (p.tick R now).found.length ≤ p.found.length + 1 := by
  have e := h.enter ok
  exact (e.1.boost ok).runTo ok e.2
theorem PInv.ticks (h : PInv R n p 0) (ok : R.Ok) (m : Nat) : PInv R n (p.ticks R m) m ∧ (p.ticks R m).found.length ≤ p.found.length + m := by
  induction m with
  | zero => exact ⟨h, Nat.le_refl _⟩
  | succ m ih =>
    have := ih.1.tick ok
    refine ⟨?_, ?_⟩
    · have e : ((m + 1 : Nat) : Int) = (m : Int) + 1 := by omega
      rw [e]; exact this.1
    · have h2 : (p.ticks R (m + 1)).found.length ≤ (p.ticks R m).found.length + 1 := this.2
      omega
end
end Qn

/-! M10: a leap is so many ticks. -/
namespace Qn
open PySem L2
section
variable {R : Rul} {S : LSt} {p : Ply} {n i : Nat} {now t k m a b : Int} {c : Card} {l : Nat} {x : Int} {xs : List Int}
def spent (a : Int) (c : Card) : Card := { c with sp := c.sp.modify c.line (· + a), q := c.q - a, sh := c.sh - a }
theorem spent_spent : spent b (spent a c) = spent (a + b) c := by
  unfold spent
  dsimp only
  have e : (c.sp.modify c.line (· + a)).modify c.line (· + b) = c.sp.modify c.line (· + (a + b)) := by
    apply List.ext_getElem
    · simp
    · intro j h1 h2
      simp only [List.getElem_modify]
      split <;> omega
  rw [e, show c.q - a - b = c.q - (a + b) by omega, show c.sh - a - b = c.sh - (a + b) by omega]
theorem charge_upC (e : look S.cards t = some c) : LSt.charge R (S.upC t (spent a)) t b = LSt.charge R S t (a + b) := by
  have e2 : look (S.upC t (spent a)).cards t = some (spent a c) := by rw [look_upC, if_pos rfl, e]; rfl
  have ef : (S.upC t (spent a)).upC t (spent b) = S.upC t (spent (a + b)) := by
    rw [LSt.upC_upC]
    congr 1
    funext d
    exact spent_spent
  unfold LSt.charge
  rw [LSt.card_of e, LSt.card_of e2]
  dsimp only
  rw [show (spent a c).sh - b = c.sh - (a + b) by unfold spent; dsimp only; omega, show (spent a c).q - b = c.q - (a + b) by unfold spent; dsimp only; omega]
  have ef' : (S.upC t (spent a)).upC t (fun c => { c with sp := c.sp.modify c.line (· + b), q := c.q - b, sh := c.sh - b }) = S.upC t (fun c => { c with sp := c.sp.modify c.line (· + (a + b)), q := c.q - (a + b), sh := c.sh - (a + b) }) := ef
  rw [ef']
  rfl
theorem charge_low (e : look S.cards t = some c) (h1 : a < c.q) (h2 : a < c.sh) : LSt.charge R S t a = S.upC t (spent a) := by
  unfold LSt.charge
  rw [LSt.card_of e]
  dsimp only
  rw [if_neg (by omega), if_neg (by omega)]
  rfl
theorem run_low (f : S.first = some t) (e : look S.cards t = some c) (h1 : a < c.q) (h2 : a < c.sh) : S.run R a = ({ S with time := S.time + a } : LSt).upC t (spent a) := by
  unfold LSt.run
  rw [first_time, f]
  exact charge_low (S := { S with time := S.time + a }) e h1 h2
theorem run_run (f : S.first = some t) (e : look S.cards t = some c) (h1 : a < c.q) (h2 : a < c.sh) : (S.run R a).run R b = S.run R (a + b) := by
  rw [run_low f e h1 h2]
  have f2 : (({ S with time := S.time + a } : LSt).upC t (spent a)).first = some t := f
  unfold LSt.run
  rw [first_time, f2, first_time, f]
  show LSt.charge R (({ S with time := S.time + a + b } : LSt).upC t (spent a)) t b = LSt.charge R { S with time := S.time + (a + b) } t (a + b)
  rw [charge_upC (S := { S with time := S.time + a + b }) e, Int.add_assoc]
theorem join_join {fs : List (Int × Int × Int × Int)} {b e e' t l : Int} : joinF (joinF fs b e t l) e e' t l = joinF fs b e' t l := by
  have k : ∀ (ys : List (Int × Int × Int × Int)) (z : Int), joinF (ys ++ [(z, e, t, l)]) e e' t l = ys ++ [(z, e', t, l)] := fun ys z => by
    unfold joinF
    rw [List.getLast?_concat]
    dsimp only
    rw [if_pos rfl, List.dropLast_concat]
  cases h : fs.getLast? with
  | none =>
    have e1 : ∀ e, joinF fs b e t l = fs ++ [(b, e, t, l)] := fun e => by unfold joinF; rw [h]
    rw [e1 e, e1 e', k]
  | some x =>
    by_cases z : x.2 = (b, t, l)
    · have e1 : ∀ e, joinF fs b e t l = fs.dropLast ++ [(x.1, e, t, l)] := fun e => by unfold joinF; rw [h]; dsimp only; rw [if_pos z]
      rw [e1 e, e1 e', k]
    · have e1 : ∀ e, joinF fs b e t l = fs ++ [(b, e, t, l)] := fun e => by unfold joinF; rw [h]; dsimp only; rw [if_neg z]
      rw [e1 e, e1 e', k]
theorem note_low (hx : p.left[i]? = some (x :: xs)) (h : k < x) : p.note (some ((i : Int), l)) b (b + k) = { p with left := p.left.set i ((x - k) :: xs), found := joinF p.found b (b + k) i l } := by
  have gd : p.left.getD i [] = x :: xs := by rw [List.getD_eq_getElem?_getD, hx]; rfl
  unfold Ply.note
  dsimp only
  rw [Int.toNat_natCast, gd, List.headD_cons, show b + k - b = k by omega, if_neg (by omega)]
  unfold Ply.less
  rw [Int.toNat_natCast, gd, List.headD_cons, List.tail_cons]
theorem note_note {e : Int} (hx : p.left[i]? = some (x :: xs)) (h : k < x) : Ply.note { p with left := p.left.set i ((x - k) :: xs), found := joinF p.found b (b + k) i l } (some ((i : Int), l)) (b + k) e = p.note (some ((i : Int), l)) b e := by
  have hi : i < p.left.length := (List.getElem?_eq_some_iff.mp hx).1
  have gd : p.left.getD i [] = x :: xs := by rw [List.getD_eq_getElem?_getD, hx]; rfl
  have gd2 : (p.left.set i ((x - k) :: xs)).getD i [] = (x - k) :: xs := by rw [List.getD_eq_getElem?_getD, List.getElem?_set_self hi]; rfl
  unfold Ply.note
  dsimp only
  rw [Int.toNat_natCast, gd, gd2, List.headD_cons, List.headD_cons, show x - k - (e - (b + k)) = x - (e - b) by omega]
  unfold Ply.less
  dsimp only
  rw [Int.toNat_natCast, gd, gd2, List.headD_cons, List.headD_cons, List.tail_cons, List.tail_cons, show x - k - (e - (b + k)) = x - (e - b) by omega, List.set_set, join_join]
theorem enter_none (h : ∀ x ∈ p.wk, x.1 ≠ now) : p.enter R now = p := by
  have e1 : getW p.wk now = [] := by
    unfold getW
    rw [List.find?_eq_none.mpr fun x hx => by simpa using h x hx]
    rfl
  have e2 : delW p.wk now = p.wk := by
    unfold delW
    exact List.filter_eq_self.mpr fun x hx => by simpa using h x hx
  unfold Ply.enter
  rw [e1, e2]
  have : sortI [] = [] := List.Perm.eq_nil (sortI_perm [])
  rw [this]
  rfl
theorem boost_none (h : ∀ b, R.boost = some b → p.S.time % b ≠ 0) : p.boost R = p := by
  have : p.S.boostNow R = p.S := by
    unfold LSt.boostNow LSt.due
    cases e : R.boost with
    | none => rfl
    | some b =>
      have := h b e
      dsimp only
      rw [if_neg (by simp [this])]
  unfold Ply.boost
  rw [this]
structure Gap (R : Rul) (p : Ply) (now : Int) (m : Int) : Prop where
  wk : ∀ x ∈ p.wk, now + m ≤ x.1
  bo : ∀ b, R.boost = some b → ∀ k, 0 < k → k < m → (now + k) % b ≠ 0
  ft : ∀ t, p.S.first = some t → ∃ (i : Nat) (x : Int) (xs : List Int) (c : Card), t = i ∧ p.left[i]? = some (x :: xs) ∧ m ≤ x ∧ look p.S.cards t = some c ∧ m ≤ c.q ∧ m ≤ c.sh
  tm : p.S.time = now
theorem Gap.step (g : Gap R p now m) (h0 : 0 < k) (h1 : k + 1 ≤ m) : p.runTo R now (now + (k + 1)) = (p.runTo R now (now + k)).tick R (now + k) := by
  have tick1 : ∀ q : Ply, (∀ x ∈ q.wk, x.1 ≠ now + k) → (∀ b, R.boost = some b → q.S.time % b ≠ 0) → q.tick R (now + k) = q.runTo R (now + k) (now + k + 1) := fun q h2 h3 => by
    unfold Ply.tick
    rw [enter_none h2, boost_none h3]
  cases f : p.S.first with
  | none =>
    have e1 : ∀ j, p.runTo R now (now + j) = { p with S := { p.S with time := p.S.time + j } } := fun j => by
      unfold Ply.runTo
      rw [ran_none f, run_none f, show now + j - now = j by omega]
      rfl
    rw [e1, e1, tick1 _ (fun x hx => by have := g.wk x hx; omega) (fun b hb => by
      show (p.S.time + k) % b ≠ 0
      rw [g.tm]; exact g.bo b hb k h0 (by omega))]
    have f2 : ({ p.S with time := p.S.time + k } : LSt).first = none := f
    unfold Ply.runTo
    dsimp only
    rw [ran_none (p := { p with S := { p.S with time := p.S.time + k } }) f2, run_none f2, show now + k + 1 - (now + k) = 1 by omega]
    show _ = ({ p with S := { p.S with time := p.S.time + k + 1 } } : Ply)
    rw [Int.add_assoc]
  | some t =>
    obtain ⟨i, x, xs, c, rfl, hx, mx, e, mq, ms⟩ := g.ft t f
    have er := ran_some f
    have e1 : p.runTo R now (now + k) = { p with S := p.S.run R k, left := p.left.set i ((x - k) :: xs), found := joinF p.found now (now + k) i (p.S.card i).line } := by
      unfold Ply.runTo
      rw [er, show now + k - now = k by omega]
      exact note_low (p := { p with S := p.S.run R k }) hx (by omega)
    have rl := run_low (R := R) f e (a := k) (by omega) (by omega)
    have tm2 : (p.S.run R k).time = now + k := by rw [time_run, g.tm]
    rw [e1, tick1 _ (fun x hx => by have := g.wk x hx; omega) (fun b hb => by
      show (p.S.run R k).time % b ≠ 0
      rw [tm2]; exact g.bo b hb k h0 (by omega))]
    have f2 : (p.S.run R k).first = some (i : Int) := by rw [rl]; exact f
    have c2 : look (p.S.run R k).cards i = some (spent k c) := by
      rw [rl, look_upC, if_pos rfl]
      show (look p.S.cards i).map _ = _
      rw [e]; rfl
    have er2 : (p.S.run R k).ran = some ((i : Int), (p.S.card i).line) := by
      unfold LSt.ran
      rw [f2]
      dsimp only
      rw [LSt.card_of c2, LSt.card_of e]
      rfl
    unfold Ply.runTo
    dsimp only
    rw [er, er2, show now + k + 1 - (now + k) = 1 by omega, show now + (k + 1) - now = k + 1 by omega, run_run f e (by omega) (by omega)]
    have := note_note (p := { p with S := p.S.run R (k + 1) }) (i := i) (x := x) (xs := xs) (k := k) (b := now) (l := (p.S.card i).line) (e := now + k + 1) hx (by omega)
    rw [show now + (k + 1) = now + k + 1 by omega]
    exact this.symm
theorem Gap.all {P : Ply} (g : Gap R ((P.ticks R n).enter R n |>.boost R) n m) {j : Nat} (h0 : 1 ≤ j) (h1 : (j : Int) ≤ m) : (((P.ticks R n).enter R n).boost R).runTo R n (n + j) = P.ticks R (n + j) := by
  induction j with
  | zero => omega
  | succ j ih =>
    by_cases z : j = 0
    · subst z; rfl
    · have e1 := ih (by omega) (by omega)
      have e2 := g.step (k := j) (by omega) (by omega)
      rw [e1] at e2
      rw [show ((j + 1 : Nat) : Int) = (j : Int) + 1 by omega, e2]
      show _ = (P.ticks R (n + j)).tick R ((n + j : Nat) : Int)
      congr 1
theorem foldl_min : ∀ {xs : List Int} {a : Int}, xs.foldl min a ≤ a ∧ (∀ x ∈ xs, xs.foldl min a ≤ x) ∧ ∀ b, b ≤ a → (∀ x ∈ xs, b ≤ x) → b ≤ xs.foldl min a
  | [], a => ⟨Int.le_refl _, fun _ h => (by cases h), fun _ h _ => h⟩
  | y :: r, a => by
    obtain ⟨h1, h2, h3⟩ := foldl_min (xs := r) (a := min a y)
    rw [List.foldl_cons]
    refine ⟨by omega, fun x hx => ?_, fun b hb hx => h3 b (by have := hx y List.mem_cons_self; omega) fun x h => hx x (List.mem_cons_of_mem _ h)⟩
    rcases List.mem_cons.mp hx with z | z
    · omega
    · exact h2 x z
theorem time_enter : (p.enter R now).S.time = p.S.time := by
  unfold Ply.enter
  dsimp only
  generalize sortI (getW p.wk now) = ts
  generalize p.S = S
  induction ts generalizing S with
  | nil => rfl
  | cons u r ih =>
    rw [List.foldl_cons, ih]
    unfold Ply.enter1
    split <;> rfl
theorem time_note {o : Option (Int × Nat)} {e : Int} : (p.note o b e).S.time = p.S.time := by
  unfold Ply.note
  cases o with
  | none => rfl
  | some tl =>
    dsimp only
    split
    · unfold Ply.over
      dsimp only
      split
      · rfl
      · show (LSt.go _ _).time = _
        exact time_go
    · rfl
theorem time_tickP : (p.tick R now).S.time = p.S.time + 1 := by
  unfold Ply.tick Ply.runTo
  rw [time_note]
  show (LSt.run R _ _).time = _
  rw [time_run, show now + 1 - now = 1 by omega]
  show (LSt.boostNow R _).time + 1 = _
  rw [time_boostNow, time_enter]
theorem time_ticks : (p.ticks R n).S.time = p.S.time + n := by
  induction n with
  | zero => exact (Int.add_zero _).symm
  | succ n ih =>
    show ((p.ticks R n).tick R n).S.time = _
    rw [time_tickP, ih]
    omega
/-- the next moment at which something else may come -/
theorem PInv.gap {til : Int} (h : PInv R n p now) (ok : R.Ok) (n0 : 0 ≤ now) (tm : p.S.time = now) (ht : now < til) : now < p.later R now til ∧ p.later R now til ≤ til ∧ Gap R ((p.enter R now).boost R) now (p.later R now til - now) ∧ PInv R n ((p.enter R now).boost R) now ∧
    (∀ x ∈ (p.enter R now).wk, now < x.1) := by
  obtain ⟨h1, h2⟩ := h.enter ok
  have h3 := h1.boost ok
  generalize hp : (p.enter R now).boost R = p0 at h3
  have hw : p0.wk = (p.enter R now).wk := by rw [← hp]; rfl
  obtain ⟨f1, f2, f3⟩ := foldl_min (xs := Ply.nexts R p0 now til) (a := til)
  have el : p.later R now til = (Ply.nexts R p0 now til).foldl min til := by unfold Ply.later; rw [hp]
  rw [el]
  have mw : ∀ x ∈ p0.wk, x.1 ∈ Ply.nexts R p0 now til := fun x hx => by
    unfold Ply.nexts
    refine List.mem_append_left _ (List.mem_append_left _ (List.mem_append_right _ (List.mem_filter.mpr ⟨List.mem_map.mpr ⟨x, hx, rfl⟩, ?_⟩)))
    rw [hw] at hx
    simpa using h2 x hx
  have mb : ∀ b, R.boost = some b → now - now % b + b ∈ Ply.nexts R p0 now til := fun b hb => by
    unfold Ply.nexts
    rw [hb]
    exact List.mem_append_left _ (List.mem_append_right _ (by simp))
  have hft : ∀ t, p0.S.first = some t → ∃ (i : Nat) (x : Int) (xs : List Int) (c : Card), t = i ∧ p0.left[i]? = some (x :: xs) ∧ look p0.S.cards t = some c ∧ 1 ≤ x ∧ 1 ≤ c.q ∧ 1 ≤ c.sh ∧ p0.S.card t = c ∧ (p0.left.getD t.toNat []).headD 0 = x := fun t f => by
    obtain ⟨c, c1, c2, _⟩ := run_some (R := R) (m := 1) h3.wf f
    obtain ⟨i, xs, rfl, e1, e2, _⟩ := h3.runOk t f
    cases xs with
    | nil => simp at e2
    | cons x xs =>
      refine ⟨i, x, xs, c, rfl, e1, c1, h3.lp i _ e1 (.inr (by rw [c1]; exact fun z => by cases z)) x List.mem_cons_self, (h3.bd.q i c c1 c2).1, (h3.bd.sh i c c1).1, LSt.card_of c1, ?_⟩
      rw [Int.toNat_natCast, List.getD_eq_getElem?_getD, e1]; rfl
  refine ⟨?_, f1, ⟨fun x hx => ?_, fun b hb k k0 k1 => ?_, fun t f => ?_, ?_⟩, h3, h2⟩
  · have := f3 (now + 1) (by omega) fun x hx => ?_
    · omega
    · unfold Ply.nexts at hx
      rcases List.mem_append.mp hx with hx | hx
      · rcases List.mem_append.mp hx with hx | hx
        · rcases List.mem_append.mp hx with hx | hx
          · rw [List.mem_singleton.mp hx]; omega
          · have := of_decide_eq_true (List.mem_filter.mp hx).2
            omega
        · split at hx
          · cases hx
          · rename_i b hb
            rw [List.mem_singleton.mp hx]
            have b5 := ok.boosts b hb
            have := Int.emod_lt_of_pos now (show 0 < b by omega)
            omega
      · split at hx
        · cases hx
        · rename_i t f
          obtain ⟨i, x', xs, c, rfl, e1, e2, x1, q1, s1, ec, eh⟩ := hft t f
          rw [ec, eh] at hx
          simp only [List.mem_cons, List.not_mem_nil, or_false] at hx
          omega
  · have := f2 _ (mw x hx)
    omega
  · have b5 := ok.boosts b hb
    have := f2 _ (mb b hb)
    have m0 := Int.emod_nonneg now (show b ≠ 0 by omega)
    rw [← Int.emod_add_emod, Int.emod_eq_of_lt (by omega) (by omega)]
    omega
  · obtain ⟨i, x, xs, c, rfl, e1, e2, x1, q1, s1, ec, eh⟩ := hft t f
    have m3 : ∀ y, y ∈ [now + c.q, now + c.sh, now + x] → y ∈ Ply.nexts R p0 now til := fun y hy => by
      unfold Ply.nexts
      rw [f]
      dsimp only
      rw [ec, eh]
      exact List.mem_append_right _ hy
    have a1 := f2 _ (m3 (now + c.q) (by simp))
    have a2 := f2 _ (m3 (now + c.sh) (by simp))
    have a3 := f2 _ (m3 (now + x) (by simp))
    exact ⟨i, x, xs, c, rfl, e1, by omega, e2, by omega, by omega⟩
  · rw [← hp]
    show (LSt.boostNow R _).time = _
    rw [time_boostNow, time_enter, tm]
/-- a leap is so many ticks -/
theorem leap_ticks {P : Ply} {N : Nat} {til : Int} (h : PInv R n P 0) (ok : R.Ok) (tm : P.S.time = 0) (ht : (N : Int) < til) : ∃ j : Nat, 1 ≤ j ∧ (N : Int) + j ≤ til ∧ (P.ticks R N).later R N til = ((N + j : Nat) : Int) ∧ (P.ticks R N).leap R N til = P.ticks R (N + j) := by
  have hN := (h.ticks ok N).1
  obtain ⟨g1, g2, g3, _⟩ := hN.gap ok (by omega) (by rw [time_ticks, tm]; omega) ht
  obtain ⟨j, hj⟩ := Int.eq_ofNat_of_zero_le (show 0 ≤ (P.ticks R N).later R N til - N by omega)
  refine ⟨j, by omega, by omega, by omega, ?_⟩
  rw [hj] at g3
  unfold Ply.leap
  rw [show (P.ticks R N).later R N til = (N : Int) + j by omega]
  exact g3.all (by omega) (Int.le_refl _)
end
end Qn

/-! M11: a play whose wakes are told task by task. -/
namespace Qn
open PySem L2
/-- lw: of each task the moment at which it comes or wakes next, or did last -/
structure WkR (wk : List (Int × List Int)) (n : Nat) (lw : List Int) (now : Int) : Prop where
  len : lw.length = n
  iff : ∀ (i : Nat), i < n → ∀ m, now ≤ m → ((i : Int) ∈ getW wk m ↔ lw[i]? = some m)
def inNow (lw : List Int) (now : Int) (j : Nat) : List Int := ((List.range j).filter fun i => decide (lw.getD i 0 = now)).map fun i : Nat => (i : Int)
section
variable {R : Rul} {p : Ply} {n : Nat} {now t : Int} {lw : List Int} {wk : List (Int × List Int)} {m : Int}
theorem inNow_succ {j : Nat} : inNow lw now (j + 1) = if lw.getD j 0 = now then inNow lw now j ++ [(j : Int)] else inNow lw now j := by
  unfold inNow
  rw [List.range_succ, List.filter_append, List.map_append]
  by_cases e : lw.getD j 0 = now
  · rw [if_pos e, List.filter_cons_of_pos (by simpa using e)]; rfl
  · rw [if_neg e, List.filter_cons_of_neg (by simpa using e)]; simp
theorem not_inNow {j : Nat} : (j : Int) ∉ inNow lw now j := fun h => by
  obtain ⟨i, hi, e⟩ := List.mem_map.mp h
  have := List.mem_range.mp (List.mem_filter.mp hi).1
  omega
theorem inNow_nodup {j : Nat} : (inNow lw now j).Nodup := List.Pairwise.map _ (fun a b (h : a ≠ b) e => h (Int.ofNat.inj e)) (List.nodup_range.filter _)
theorem WkR.inNow (r : WkR p.wk n lw now) (h : PInv R n p now) : inNow lw now n = sortI (getW p.wk now) := by
  refine sortI_uniq ?_ ?_
  · refine List.Pairwise.map _ (fun a b (q : a ≤ b) => Int.ofNat_le.mpr q) ?_
    exact (List.pairwise_lt_range.filter _).imp Nat.le_of_lt
  · refine (List.perm_ext_iff_of_nodup inNow_nodup (h.enOk now).nd).mpr fun t => ?_
    constructor
    · intro ht
      obtain ⟨i, hi, rfl⟩ := List.mem_map.mp ht
      obtain ⟨h1, h2⟩ := List.mem_filter.mp hi
      have h1 := List.mem_range.mp h1
      refine (r.iff i h1 now (Int.le_refl _)).mpr ?_
      have h3 : i < lw.length := by rw [r.len]; exact h1
      have h4 := of_decide_eq_true h2
      rw [List.getD_eq_getElem?_getD, List.getElem?_eq_getElem h3] at h4
      rw [List.getElem?_eq_getElem h3]
      exact congrArg some h4
    · intro ht
      have pm := getW_flat (m := now) h.kn
      obtain ⟨t0, t1, _⟩ := h.wt t (pm.mem_iff.mpr (List.mem_append_left _ ht))
      obtain ⟨i, rfl⟩ := Int.eq_ofNat_of_zero_le t0
      have hi : i < n := by omega
      have := (r.iff i hi now (Int.le_refl _)).mp ht
      refine List.mem_map.mpr ⟨i, List.mem_filter.mpr ⟨List.mem_range.mpr hi, ?_⟩, rfl⟩
      rw [List.getD_eq_getElem?_getD, this]
      simp
theorem getW_add : getW (addW wk m t) now = if now = m then getW wk m ++ [t] else getW wk now := by
  induction wk with
  | nil =>
    unfold addW getW
    by_cases e : now = m
    · subst e; simp
    · rw [if_neg e, List.find?_cons_of_neg (by simpa using fun z => e z.symm)]
  | cons p r ih =>
    unfold addW
    by_cases e : p.1 = m
    · rw [if_pos e]
      by_cases e2 : now = m
      · rw [if_pos e2]
        unfold getW
        rw [List.find?_cons_of_pos (by simpa [e2] using e), List.find?_cons_of_pos (by simpa using e)]
        rfl
      · rw [if_neg e2]
        unfold getW
        rw [List.find?_cons_of_neg (by simpa [e] using fun z => e2 z.symm), List.find?_cons_of_neg (by simpa [e] using fun z => e2 z.symm)]
    · rw [if_neg e]
      by_cases e3 : p.1 = now
      · have e2 : ¬ now = m := fun z => e (e3.trans z)
        rw [if_neg e2]
        unfold getW
        rw [List.find?_cons_of_pos (by simpa using e3), List.find?_cons_of_pos (by simpa using e3)]
      · unfold getW at ih ⊢
        rw [List.find?_cons_of_neg (by simpa using e3), ih]
        by_cases e2 : now = m
        · subst e2
          rw [if_pos rfl, if_pos rfl, List.find?_cons_of_neg (by simpa using e)]
        · rw [if_neg e2, if_neg e2, List.find?_cons_of_neg (by simpa using e3)]
theorem getW_del (h : m ≠ now) : getW (delW wk now) m = getW wk m := by
  unfold getW delW
  congr 2
  induction wk with
  | nil => rfl
  | cons p r ih =>
    by_cases e : p.1 = now
    · rw [List.filter_cons_of_neg (by simpa using e), ih, List.find?_cons_of_neg (by simpa [e] using fun z => h z.symm)]
    · rw [List.filter_cons_of_pos (by simpa using e)]
      by_cases e2 : p.1 = m
      · rw [List.find?_cons_of_pos (by simpa using e2), List.find?_cons_of_pos (by simpa using e2)]
      · rw [List.find?_cons_of_neg (by simpa using e2), List.find?_cons_of_neg (by simpa using e2), ih]
theorem WkR.del (r : WkR wk n lw now) : WkR (delW wk now) n lw (now + 1) := ⟨r.len, fun i hi m hm => by
  rw [getW_del (by omega)]
  exact r.iff i hi m (by omega)⟩
theorem WkR.add {i : Nat} {w : Int} (r : WkR wk n lw now) (hi : i < n) (hw : now ≤ w) (nw : (i : Int) ∉ (wk.map Prod.snd).flatten) : WkR (addW wk w i) n (lw.set i w) now := ⟨by rw [List.length_set]; exact r.len, fun j hj m hm => by
  have inW : ∀ m, (i : Int) ∉ getW wk m := fun m z => by
    refine nw (List.mem_flatten.mpr ⟨getW wk m, List.mem_map.mpr ⟨(m, getW wk m), getW_mem rfl (List.ne_nil_of_mem z), rfl⟩, z⟩)
  have hl : i < lw.length := by rw [r.len]; exact hi
  rw [getW_add, List.getElem?_set]
  by_cases ij : i = j
  · subst ij
    rw [if_pos rfl, if_pos hl]
    by_cases e : m = w
    · subst e; simp
    · rw [if_neg e]
      constructor
      · intro z; exact absurd z (inW m)
      · intro z; exact absurd (Option.some.inj z).symm e
  · rw [if_neg ij]
    by_cases e : m = w
    · subst e
      rw [if_pos rfl, List.mem_append]
      constructor
      · rintro (z | z)
        · exact (r.iff j hj m hm).mp z
        · exact absurd (show i = j by have := List.mem_singleton.mp z; omega) ij
      · intro z; exact .inl ((r.iff j hj m hm).mpr z)
    · rw [if_neg e]; exact r.iff j hj m hm⟩
theorem WkR.begin {ts : List (Int × List Int)} {S : LSt} (h : ∀ x ∈ ts, 0 ≤ x.1) : WkR (Ply.begin S ts).wk ts.length (ts.map Prod.fst) 0 := by
  refine ⟨List.length_map .., fun i hi m hm => ?_⟩
  have key : ∀ (xs : List ((Int × List Int) × Nat)) (w : List (Int × List Int)), ((i : Int) ∈ getW (xs.foldl (fun w x => addW w x.1.1 (x.2 : Nat)) w) m ↔ (i : Int) ∈ getW w m ∨ ∃ x ∈ xs, x.1.1 = m ∧ x.2 = i) := by
    intro xs
    induction xs with
    | nil => intro w; simp
    | cons x r ih =>
      intro w
      rw [List.foldl_cons, ih, getW_add]
      by_cases e : m = x.1.1
      · rw [if_pos e, List.mem_append, ← e]
        constructor
        · rintro ((z | z) | ⟨y, hy, z⟩)
          · exact .inl z
          · exact .inr ⟨x, List.mem_cons_self, e.symm, by have := List.mem_singleton.mp z; omega⟩
          · exact .inr ⟨y, List.mem_cons_of_mem _ hy, z⟩
        · rintro (z | ⟨y, hy, z1, z2⟩)
          · exact .inl (.inl z)
          · rcases List.mem_cons.mp hy with q | q
            · subst q; exact .inl (.inr (by rw [z2]; simp))
            · exact .inr ⟨y, q, z1, z2⟩
      · rw [if_neg e]
        constructor
        · rintro (z | ⟨y, hy, z⟩)
          · exact .inl z
          · exact .inr ⟨y, List.mem_cons_of_mem _ hy, z⟩
        · rintro (z | ⟨y, hy, z1, z2⟩)
          · exact .inl z
          · rcases List.mem_cons.mp hy with q | q
            · subst q; exact absurd z1.symm e
            · exact .inr ⟨y, q, z1, z2⟩
  have hb : (Ply.begin S ts).wk = ts.zipIdx.foldl (fun w x => addW w x.1.1 (x.2 : Nat)) [] := rfl
  rw [hb, key, List.getElem?_map]
  constructor
  · rintro (z | ⟨x, hx, z1, z2⟩)
    · cases z
    · obtain ⟨h1, h2⟩ := List.mem_zipIdx' hx
      have h3 : ts[x.2]? = some x.1 := by rw [List.getElem?_eq_getElem h1]; exact congrArg some h2.symm
      rw [← z2, h3]
      exact congrArg some z1
  · intro z
    obtain ⟨y, e1, e2⟩ := Option.map_eq_some_iff.mp z
    refine .inr ⟨(y, i), ?_, e2, rfl⟩
    rw [List.mem_zipIdx_iff_getElem?]
    exact e1
theorem runTo_more {i : Nat} {x : Int} {xs : List Int} (f : p.S.first = some (i : Int)) (hx : p.left[i]? = some (x :: xs)) (z : x - 1 ≠ 0) : p.runTo R now (now + 1) =
    { p with S := p.S.run R 1, left := p.left.set i ((x - 1) :: xs), found := joinF p.found now (now + 1) i (p.S.card i).line } := by
  have gd : p.left.getD i [] = x :: xs := by rw [List.getD_eq_getElem?_getD, hx]; rfl
  unfold Ply.runTo
  rw [ran_some f, show now + 1 - now = 1 by omega]
  unfold Ply.note
  dsimp only
  rw [Int.toNat_natCast, gd, List.headD_cons, show now + 1 - now = 1 by omega]
  unfold Ply.less
  dsimp only
  rw [Int.toNat_natCast, gd, List.headD_cons, List.tail_cons, if_neg z]
theorem runTo_end {i : Nat} {x : Int} (f : p.S.first = some (i : Int)) (hx : p.left[i]? = some [x]) (z : x - 1 = 0) : p.runTo R now (now + 1) =
    { p with S := (p.S.run R 1).go i, left := p.left.set i [x - 1], found := joinF p.found now (now + 1) i (p.S.card i).line, ends := p.ends.set i (some (now + 1)) } := by
  have hi : i < p.left.length := (List.getElem?_eq_some_iff.mp hx).1
  have gd : p.left.getD i [] = [x] := by rw [List.getD_eq_getElem?_getD, hx]; rfl
  unfold Ply.runTo
  rw [ran_some f, show now + 1 - now = 1 by omega]
  unfold Ply.note
  dsimp only
  rw [Int.toNat_natCast, gd, List.headD_cons, show now + 1 - now = 1 by omega]
  unfold Ply.less
  dsimp only
  rw [Int.toNat_natCast, gd, List.headD_cons, List.tail_cons, if_pos z]
  unfold Ply.over
  dsimp only
  rw [Int.toNat_natCast, List.getD_eq_getElem?_getD, List.getElem?_set_self hi, Option.getD_some]
theorem runTo_wait {i : Nat} {x w : Int} {r : List Int} (f : p.S.first = some (i : Int)) (hx : p.left[i]? = some (x :: w :: r)) (z : x - 1 = 0) : p.runTo R now (now + 1) =
    { p with S := (p.S.run R 1).wait i, left := p.left.set i r, found := joinF p.found now (now + 1) i (p.S.card i).line, wk := addW p.wk (now + 1 + w) i } := by
  have hi : i < p.left.length := (List.getElem?_eq_some_iff.mp hx).1
  have gd : p.left.getD i [] = x :: w :: r := by rw [List.getD_eq_getElem?_getD, hx]; rfl
  unfold Ply.runTo
  rw [ran_some f, show now + 1 - now = 1 by omega]
  unfold Ply.note
  dsimp only
  rw [Int.toNat_natCast, gd, List.headD_cons, show now + 1 - now = 1 by omega]
  unfold Ply.less
  dsimp only
  rw [Int.toNat_natCast, gd, List.headD_cons, List.tail_cons, if_pos z]
  unfold Ply.over
  dsimp only
  rw [Int.toNat_natCast, List.getD_eq_getElem?_getD, List.getElem?_set_self hi, Option.getD_some]
  dsimp only
  rw [List.set_set]
theorem runTo_none (f : p.S.first = none) : p.runTo R now (now + 1) = { p with S := p.S.run R 1 } := by
  unfold Ply.runTo
  rw [ran_none f, show now + 1 - now = 1 by omega]
  rfl
end
end Qn

/-! S3: known facts, numbers in lists, dicts of lists. -/
namespace Qn
open PySem L2
local macro_rules | `(tactic| fail "ne") => `(tactic| first | assumption | (apply Ne.symm; assumption) | (apply ne_of_none; assumption; assumption) | (apply Ne.symm; apply ne_of_none; assumption; assumption) | (apply ne_of; assumption; assumption; (intro z; cases z)))
local macro_rules | `(tactic| fail "hp") => `(tactic| with_reducible first | assumption | apply upd_same | (apply upd_old; rotate_left; assumption; fail "hp") | (apply upd_oth; rotate_left; fail "ne"; fail "hp"))
local macro_rules | `(tactic| fail "sl") => `(tactic| with_reducible first | assumption | (apply SqL.of; fail "hp"))
local macro_rules | `(tactic| fail "st") => `(tactic| with_reducible first | assumption | (apply SqT.of; fail "hp"))
local macro_rules | `(tactic| fail "tx") => `(tactic| with_reducible first | assumption | (apply Txt.c_Card; assumption) | (apply Txt.n_Card_line; assumption) | (apply Txt.n_Card_quantum; assumption) | (apply Txt.n_Card_share; assumption) | (apply Txt.n_Card_is_ready; assumption) | (apply Txt.n_Card_spent; assumption) | (apply Txt.c_Lines; assumption) | (apply Txt.n_Lines_rules; assumption) | (apply Txt.n_Lines_cards; assumption) | (apply Txt.n_Lines_rows; assumption) | (apply Txt.n_Lines_time; assumption))
local macro_rules | `(tactic| fail "lk") => `(tactic| with_reducible first | assumption | apply lk_LF_rules | apply lk_LF_cards | apply lk_LF_rows | apply lk_LF_time | apply lk_CF_line | apply lk_CF_quantum | apply lk_CF_share | apply lk_CF_is_ready | apply lk_CF_spent | (apply lk_LF_no; decide +kernel; decide +kernel; decide +kernel; decide +kernel))
local macro_rules | `(tactic| fail "at") => `(tactic| with_reducible first | assumption | apply mc_0 | apply mc_1 | apply mc_2 | apply mc_3 | apply mc_4 | apply at_0 | apply at_1 | apply at_2 | apply at_3 | apply at_4 | (apply atI_nat; assumption) | (apply at_z; assumption))
local macro_rules | `(tactic| fail "go") => `(tactic| repeat (first
  | apply rd_step
  | with_reducible (first
    | (apply r_kFld; fail "hp"; fail "tx"; fail "tx"; fail "lk")
    | (apply r_ixL; fail "sl"; fail "at") | (apply r_ixT; fail "st"; fail "at")
    | (apply r_kMeth; fail "hp"; fail "lk") | (apply r_kBML; fail "sl")
    | (apply r_lenL; fail "sl") | (apply r_lenT; fail "st") | (apply r_lenD; fail "hp")
    | (apply r_kDGetI; fail "hp"; (first | assumption | rfl)) | (apply r_kDGetS; fail "hp"; (first | assumption | apply mv_rules | apply mv_rows | apply mv_cards | apply mv_now)) | (apply r_kDInI; fail "hp") | (apply r_kDNotInI; fail "hp")
    | (apply r_kAugF; fail "hp"; fail "tx"; fail "tx"; fail "lk")
    | (apply r_isi_tuple_tuple; fail "st") | (apply r_isi_list_tuple; fail "sl") | (apply r_isi_list_list; fail "sl") | (apply r_isi_tuple_list; fail "st")
    | (apply r_kUnT; fail "st"; with_unfolding_all rfl) | (apply r_kIL; fail "sl") | (apply r_kIT; fail "st") | (apply r_kIE; fail "st") )))
local macro_rules | `(tactic| fail "eg") => `(tactic| repeat (first
  | apply stp
  | (refine e_rul0 (fun _ => ?_))

  | (refine e_tup0 (fun _ => ?_)) ))
local macro_rules | `(tactic| fail "egs") => `(tactic| (try (with_reducible refine e_seq ?_)) <;> repeat (first
  | apply stp
  | (with_reducible refine e_seq ?_)
  | (refine e_rul0 (fun _ => ?_))

  | (refine e_tup0 (fun _ => ?_)) ))
/-! ### what is known, by any word -/
def Kn (φ : Hp → Prop) (m : ∀ {k k'}, Same k k' → φ k → φ k') : Ty := fun _ => ⟨fun k _ => φ k, fun s x => m s x⟩
/-- what is told of k, and may be known further on -/
theorem Sat.tellK {P F : List As} {X : Ty} {v : V} {H : Hp} [t : Take P v X F] (s : Sat P H) : ∃ k h, Same k H ∧ Same h H ∧ Apart k h ∧ (X v).p k h ∧ ∀ B : As, B.p k hnil → Sat (B :: P) H := by
  obtain ⟨k, h, s1, s2, x, n, y⟩ := s
  obtain ⟨h1, h2, t1, t2, z, pA, pF⟩ := t.tk _ _ y
  exact ⟨k, h1, s1, t1.trans s2, x.sub (Same.refl _) t1, pA, fun B hB => ⟨k, h, s1, s2, x, n, hnil, h, same_nil, Same.refl _, apart_nil, hB, y⟩⟩
/-- one owned cell of a thing is written -/
theorem Sat.write {F : List As} {X Y : Ty} {v : V} {p : Addr} {o' : HO} {H : Hp} (s : Sat (At v X :: F) H) (no : ∀ xs, o' ≠ .tup xs) (f : ∀ k h, Same k H → Same h H → (∃ hF, SatL F k hF) → (X v).p k h → h p ≠ none ∧ (Y v).p k (upd h p o')) : Sat (At v Y :: F) (upd H p o') := by
  obtain ⟨k, h, s1, s2, x, n, h1, h2, t1, t2, z, pA, pF⟩ := s
  obtain ⟨ow, pB⟩ := f k h1 s1 (t1.trans s2) ⟨h2, pF⟩ pA
  have o1 : ∃ o, h1 p = some o := by
    cases e : h1 p with
    | none => exact absurd e ow
    | some o => exact ⟨o, rfl⟩
  obtain ⟨o, e1⟩ := o1
  have eh := t1 _ _ e1
  have kp : k p = none := (x p).resolve_right (by rw [eh]; simp)
  have fp : h2 p = none := (z p).resolve_left ow
  have up : ∀ {g g' : Hp}, Same g g' → Same (upd g p o') (upd g' p o') := fun {g g'} s b u e => by
    by_cases q : b = p
    · subst q; rw [upd_same] at e ⊢; exact e
    · rw [upd_ne q] at e ⊢; exact s _ _ e
  have to : ∀ {g g' : Hp}, Same g g' → g p = none → Same g (upd g' p o') := fun {g g'} s n b u e => upd_oth (s _ _ e) fun q => by rw [q, n] at e; cases e
  refine ⟨k, upd h p o', to s1 kp, up s2, fun b => ?_, fun b xs e => ?_, upd h1 p o', h2, up t1, to t2 fp, fun b => ?_, pB, pF⟩
  · by_cases q : b = p
    · subst q; exact .inl kp
    · rw [upd_ne q]; exact x b
  · by_cases q : b = p
    · subst q; rw [upd_same] at e; exact no xs (Option.some.inj e)
    · rw [upd_ne q] at e; exact n b xs e
  · by_cases q : b = p
    · subst q; exact .inr fp
    · rw [upd_ne q]; exact z b
/-- what is new stands beside, by what is known -/
theorem Sat.newW {A : As} {P : List As} {p : Addr} {o : HO} {H k h : Hp} (s1 : Same k H) (s2 : Same h H) (x : Apart k h) (nt : NoTup h) (y : SatL P k h) (n : H p = none) (hA : A.p k (upd hnil p o)) (no : ∀ xs, o ≠ .tup xs) : Sat (A :: P) (upd H p o) := by
  have nk := s1.free n
  have nh := s2.free n
  have sH : Same H (upd H p o) := Same.upd n
  have sp : Same (upd hnil p o) (upd H p o) := fun b u e => by
    by_cases z : b = p
    · subst z; rw [upd_same] at e ⊢; exact e
    · rw [upd_ne z] at e; cases e
  have ap : ∀ {g : Hp}, g p = none → Apart g (upd hnil p o) := fun {g} e b => by
    by_cases z : b = p
    · subst z; exact .inl e
    · exact .inr (by rw [upd_ne z]; rfl)
  exact ⟨k, hor (upd hnil p o) h, s1.trans sH, hor_sub sp (s2.trans sH), (hor_apart (ap nk).symm x.symm).symm, noTup_hor (noTup_one no) nt, upd hnil p o, h, same_hor_l, same_hor_r (ap nh).symm, (ap nh).symm, hA, y⟩
theorem merge_val {G : Int → V → Prop} : ∀ {kvs acc : List (Key × V)} {t : Int}, (∀ p ∈ kvs, ∃ t, p.1 = .inl t ∧ G t p.2) → ((∃ p ∈ kvs, p.1 = .inl t) → ∃ v, valV (mergeK acc kvs) (.inl t) = some v ∧ G t v) ∧ ((∀ p ∈ kvs, p.1 ≠ .inl t) → valV (mergeK acc kvs) (.inl t) = valV acc (.inl t))
  | [], acc, t, _ => ⟨fun ⟨_, h, _⟩ => (by cases h), fun _ => rfl⟩
  | (k, v) :: r, acc, t, h => by
    obtain ⟨u, e, g⟩ := h _ List.mem_cons_self
    have ih := merge_val (kvs := r) (acc := putK acc k v) (t := t) fun p hp => h p (List.mem_cons_of_mem _ hp)
    have em : mergeK acc ((k, v) :: r) = mergeK (putK acc k v) r := rfl
    rw [em]
    refine ⟨fun hx => ?_, fun hx => ?_⟩
    · by_cases q : ∃ p ∈ r, p.1 = .inl t
      · exact ih.1 q
      · rw [ih.2 fun p hp z => q ⟨p, hp, z⟩, valV_put]
        obtain ⟨p, hp, ep⟩ := hx
        rcases List.mem_cons.mp hp with z | z
        · rw [z] at ep
          rw [if_pos ep.symm]
          have : u = t := Sum.inl.inj (e.symm.trans ep)
          exact ⟨v, rfl, this ▸ g⟩
        · exact absurd ⟨p, z, ep⟩ q
    · rw [ih.2 fun p hp => hx p (List.mem_cons_of_mem _ hp), valV_put, if_neg (fun z => hx _ List.mem_cons_self z.symm)]
theorem merge_len : ∀ {kvs acc : List (Key × V)}, (mergeK acc kvs).length ≤ acc.length + kvs.length
  | [], acc => Nat.le_refl _
  | (k, v) :: r, acc => by
    have em : mergeK acc ((k, v) :: r) = mergeK (putK acc k v) r := rfl
    rw [em]
    have := merge_len (kvs := r) (acc := putK acc k v)
    have h2 : (putK acc k v).length ≤ acc.length + 1 := by
      unfold putK
      split
      · rw [List.length_map]; omega
      · rw [List.length_append]; show _ + 1 ≤ _; omega
    show _ ≤ acc.length + (r.length + 1)
    omega
/-- pairs told by their places, as a list of keys and values -/
theorem pairs_of {K : PySem.W.Frag} {H k : Hp} {f : Int → List Int} (s : Same k H) : ∀ {ps : List Addr} {ts : List Int}, ps.length = ts.length →
    (∀ (i : Nat) (p : Addr) (t : Int), ps[i]? = some p → ts[i]? = some t → ∃ q, k p = some (.tup [.int t, .ref q]) ∧ k q = some (.lst ((f t).map V.int))) →
    ∃ kvs : List (Key × V), PySem.Paired (fun p kv => SqT K H p [kV kv.1, kv.2]) ps kvs ∧ kvs.map (·.1) = ts.map Sum.inl ∧ ∀ p ∈ kvs, ∃ t, p.1 = .inl t ∧ ∃ q, p.2 = .ref q ∧ k q = some (.lst ((f t).map V.int))
  | [], [], _, _ => ⟨[], .nil, rfl, fun p h => by cases h⟩
  | p :: ps, t :: ts, hl, h => by
    obtain ⟨q, h1, h2⟩ := h 0 p t rfl rfl
    obtain ⟨kvs, a, b, c⟩ := pairs_of (K := K) s (ps := ps) (ts := ts) (by simpa using hl) fun i p t e1 e2 => h (i + 1) p t e1 e2
    refine ⟨(.inl t, .ref q) :: kvs, .cons (SqT.of (s _ _ h1)) a, by simp [b], fun x hx => ?_⟩
    rcases List.mem_cons.mp hx with z | z
    · rw [z]; exact ⟨t, rfl, q, rfl, h2⟩
    · exact c x z
  | [], _ :: _, hl, _ => by cases hl
  | _ :: _, [], hl, _ => by cases hl
theorem kl_of {F G : List As} {q : Addr} {o : HO} {k h : Hp} [tq : Take F (.ref q) (Kel o) G] (s : SatL F k h) : k q = some o := by
  obtain ⟨h3, h4, t3, t4, z2, ⟨q', e, pB⟩, pG⟩ := tq.tk _ _ s
  cases e
  exact pB
section
variable {P F G : List As} {K : PySem.W.Frag} {σ : St} {Q : VK} {a b p q d : Addr} {R : Hp → Prop} {v x y : V} {xs ys : List V} {ns ms : List Int} {i : Nat} {n : Nat} {M : Int → Option (List Int)} {kvs : List (Key × V)} {t : Int}
/-! numbers in lists -/
theorem atI_ints (h : i < ns.length) : atI (ns.map V.int) (i : Nat) = some (.int (ns.getD i 0)) := atI_nat (by rw [List.getElem?_map, List.getElem?_eq_getElem h]; simp [List.getD, h])
theorem e_ixI [s : Sees P p (.lst (ns.map V.int))] (h : i < ns.length) (k : Ent P (fun H => Q (.int (ns.getD i 0)) H)) : Ent P (fun H => rIxL K (.ref p) (.int (i : Nat)) H Q) := e_ixL (atI_ints h) k
instance sp_sum [s : Sees P p (.lst (ns.map V.int))] : Stp P (fun H => rSum K [.ref p] H Q) P (fun H => Q (.int ns.sum) H) := ⟨fun k H h => ⟨p, ns, rfl, SqL.of (s.sees H h), k H h⟩⟩
theorem cut_from : cutV xs (some (i : Nat)) none = xs.drop i := by
  unfold cutV
  rw [HT.sIx_nat, HT.sIx_none]
  by_cases h : i ≤ xs.length
  · rw [Nat.min_eq_left h, List.take_of_length_le (by rw [List.length_drop]; omega)]
  · rw [Nat.min_eq_right (by omega), List.drop_of_length_le (Nat.le_refl _), List.drop_of_length_le (show xs.length ≤ i by omega)]; simp
theorem cut_to : cutV xs none (some (i : Nat)) = xs.take i := by
  unfold cutV
  rw [HT.sIx_nat, HT.sIx_none, List.drop_zero, Nat.sub_zero]
  by_cases h : i ≤ xs.length
  · rw [Nat.min_eq_left h]
  · rw [Nat.min_eq_right (by omega), List.take_of_length_le (Nat.le_refl _), List.take_of_length_le (by omega)]
instance sp_neE [s : Sees P p (.lst (ns.map V.int))] [s2 : Sees P q (.lst [])] : Stp P (fun H => rNeD K (.ref p) (.ref q) H Q) P (fun H => Q (.bl (!ns.isEmpty)) H) := ⟨fun k H h => r_neE_ints (SqL.of (s.sees H h)) (SqL.of (s2.sees H h)) (k H h)⟩
instance sp_eqE [s : Sees P p (.lst (ns.map V.int))] [s2 : Sees P q (.lst [])] : Stp P (fun H => rEqD K (.ref p) (.ref q) H Q) P (fun H => Q (.bl ns.isEmpty) H) := ⟨fun k H h => r_eqE_ints (SqL.of (s.sees H h)) (SqL.of (s2.sees H h)) (k H h)⟩
/-! a dict of lists of numbers -/
def DolX (n : Nat) (M : Int → Option (List Int)) : Ty := fun v => ⟨fun k h => ∃ (d : Addr) (kvs : List (Key × V)), v = .ref d ∧ h d = some (.dK kvs) ∧ kvs.length ≤ n ∧
    (∀ t, M t = none → valV kvs (.inl t) = none) ∧ (∀ t xs, M t = some xs → ∃ q, valV kvs (.inl t) = some (.ref q) ∧ k q = some (.lst (xs.map V.int))),
  fun s ⟨d, kvs, e, h1, h2, h3, h4⟩ => ⟨d, kvs, e, h1, h2, h3, fun t xs e => by obtain ⟨q, a, b⟩ := h4 t xs e; exact ⟨q, a, s _ _ b⟩⟩⟩
theorem e_dolNew [t : Take P (.ref p) (DctX []) F] {X : Hp → Prop} (k : Ent (At (.ref p) (DolX 0 fun _ => none) :: F) X) : Ent P X := fun H s => k H (s.imp fun g h x => by
  obtain ⟨h1, h2, s1, s2, z, ⟨q, e, hq⟩, pF⟩ := t.tk g h x
  exact ⟨h1, h2, s1, s2, z, ⟨q, [], e, hq, Nat.le_refl _, fun _ _ => rfl, fun _ _ e => by cases e⟩, pF⟩)
theorem e_dolGet {ms : List Int} [tk : Take P (.ref p) (DolX n M) F] (h : M t = some ms) (k : ∀ q, Ent (At (.ref q) (KLst (ms.map V.int)) :: P) (fun H => Q (.ref q) H)) : Ent P (fun H => kDGet (.ref p) (.int t) H Q) := fun H s => by
  obtain ⟨g, h0, s1, s2, ap, ⟨d, kvs, e, hd, hl, hn, hs⟩, cl⟩ := s.tellK (t := tk)
  cases e
  obtain ⟨q, h1, h2⟩ := hs t ms h
  exact r_kDGetI (s2 _ _ hd) h1 (k q H (cl _ ⟨q, rfl, h2⟩))
theorem e_dolPut {ms : List Int} [tk : Take P (.ref p) (DolX n M) F] [tq : Take F (.ref q) (KLst (ms.map V.int)) G] (hn : n < 100000) (k : Ent (At (.ref p) (DolX (n + 1) fun u => if u = t then some ms else M u) :: F) R) :
    Ent P (fun H => kDPut (.ref q) (.ref p) (.int t) H R) := fun H s => by
  have sp := s.imp tk.tk
  obtain ⟨g, h0, s1, s2, ap, d, kvs, e, hd, hl, hN, hS⟩ := s.tell (t := tk)
  cases e
  refine r_kDPutI (s2 _ _ hd) (by omega) (k _ (sp.write (fun _ e => by cases e) fun g h z1 z2 ⟨hF, sF⟩ ⟨d, kvs', e, hd', hl', hN', hS'⟩ => ?_))
  cases e
  have hq := kl_of (tq := tq) sF
  have ee := z2 _ _ hd'
  rw [s2 _ _ hd] at ee
  cases ee
  refine ⟨by rw [hd']; simp, _, _, rfl, upd_same, ?_, fun u hu => ?_, fun u xs hu => ?_⟩
  · unfold putK
    split
    · rw [List.length_map]; omega
    · rw [List.length_append]; show _ + 1 ≤ _; omega
  · rw [valV_put]
    dsimp only at hu
    by_cases z : u = t
    · rw [if_pos z] at hu; cases hu
    · rw [if_neg z] at hu
      rw [if_neg (fun y => z (Sum.inl.inj y))]
      exact hN' u hu
  · rw [valV_put]
    dsimp only at hu
    by_cases z : u = t
    · rw [if_pos z] at hu
      rw [if_pos (by rw [z]), ← Option.some.inj hu]
      exact ⟨q, rfl, hq⟩
    · rw [if_neg z] at hu
      rw [if_neg (fun y => z (Sum.inl.inj y))]
      exact hS' u xs hu
def cDictP (K : PySem.W.Frag) : List V → Hp → VK → Prop := fun xs H Q => ∃ (a : Addr) (ps : List Addr) (kvs : List (Key × V)), xs = [.ref a] ∧ SqL K H a (ps.map V.ref) ∧ PySem.Paired (fun p kv => SqT K H p [kV kv.1, kv.2]) ps kvs ∧
    ∀ p, H p = none → Q (.ref p) (upd H p (.dK (mergeK [] kvs)))
theorem qr_dictP {X : Cx} (hc : X.calm = true) : CallR X (.type "dict") (cDictP X.K) := call_dictP hc
/-- dict([(number, list), ..]) -/
theorem e_dolPairs {ps : List Addr} {ts : List Int} {f : Int → List Int} [s1 : Sees P a (.lst (ps.map V.ref))] (hl : ps.length = ts.length)
    (hp : ∀ k h, SatL P k h → ∀ (i : Nat) (p : Addr) (t : Int), ps[i]? = some p → ts[i]? = some t → ∃ q, k p = some (.tup [.int t, .ref q]) ∧ k q = some (.lst ((f t).map V.int)))
    (k : ∀ d, Ent (At (.ref d) (DolX ts.length fun t => if t ∈ ts then some (f t) else none) :: P) (fun H => Q (.ref d) H)) :
    Ent P (fun H => cDictP K [.ref a] H Q) := fun H s => by
  have sH := s1.sees H s
  have s' := s
  obtain ⟨g, h, z1, z2, ap, nt, y⟩ := s'
  obtain ⟨kvs, k1, k2, k3⟩ := pairs_of (K := K) z1 hl (hp g h y)
  have lk : kvs.length = ts.length := by have := congrArg List.length k2; simpa using this
  have keyin : ∀ t, (∃ p ∈ kvs, p.1 = .inl t) ↔ t ∈ ts := fun t => by
    have : (Sum.inl t : Key) ∈ kvs.map (·.1) ↔ t ∈ ts := by rw [k2]; simp
    rw [← this, List.mem_map]
  refine ⟨a, ps, kvs, rfl, SqL.of sH, k1, fun d nd => k d _ (Sat.newW z1 z2 ap nt y nd ⟨d, mergeK [] kvs, rfl, upd_same, by have := merge_len (kvs := kvs) (acc := []); simp at this; omega, fun t ht => ?_, fun t xs ht => ?_⟩ fun _ e => by cases e)⟩
  · dsimp only at ht
    have : t ∉ ts := fun z => by rw [if_pos z] at ht; cases ht
    have q := (merge_val (G := fun t v => True) (kvs := kvs) (acc := []) (t := t) fun p hp => by obtain ⟨t, e, _⟩ := k3 p hp; exact ⟨t, e, trivial⟩).2 fun p hp z => this ((keyin t).mp ⟨p, hp, z⟩)
    rw [q]; rfl
  · dsimp only at ht
    have hm : t ∈ ts := Classical.byContradiction fun z => by rw [if_neg z] at ht; cases ht
    rw [if_pos hm] at ht
    rw [← Option.some.inj ht]
    obtain ⟨v, e, q, rfl, hq⟩ := (merge_val (G := fun t v => ∃ q, v = .ref q ∧ g q = some (.lst ((f t).map V.int))) (kvs := kvs) (acc := []) (t := t) k3).1 ((keyin t).mpr hm)
    exact ⟨q, e, hq⟩
end
/-! ### facts by words -/
theorem e_kn {P : List As} {X : Hp → Prop} (v : V) (φ : Hp → Prop) (m : ∀ {k k'}, Same k k' → φ k → φ k') (f : ∀ k h, SatL P k h → φ k) (e : Ent (At v (Kn φ m) :: P) X) : Ent P X := fun H s => e H (s.imp fun k h x => ⟨hnil, h, same_nil, Same.refl _, apart_nil, f k h x, x⟩)
instance pers_kn {φ : Hp → Prop} {m : ∀ {k k'}, Same k k' → φ k → φ k'} : Pers (Kn φ m) := ⟨fun _ _ _ x => x⟩
theorem kn_of {P F : List As} {v : V} {φ : Hp → Prop} {m : ∀ {k k'}, Same k k' → φ k → φ k'} {k h : Hp} (t : Take P v (Kn φ m) F) (s : SatL P k h) : φ k := by
  obtain ⟨h3, h4, t3, t4, z2, pB, pG⟩ := t.tk _ _ s
  exact pB
/-! rules made anew -/
theorem e_mkrul {P F : List As} {Q : VK} {la : Addr} {R : Rul} {b : Option Int} {kp : Bool} [tk : Take P (.ref la) (RlsX R) F] (k : ∀ ra, Ent (At (.ref ra) (RulX { R with boost := b, kept := kp }) :: P) (fun H => Q (.ref ra) H)) : Ent P (fun H => kTup [.ref la, bV b, .str (chS kp)] H Q) := fun H s =>
  r_kTup (by simp) fun p np => k p _ <| by
    obtain ⟨g, h0, s1, s2, ap, la', ps, e, h1, h2, h3⟩ := s.tell (t := tk)
    cases e
    have sH : Same H (upd H p (.tup [.ref la, bV b, .str (chS kp)])) := Same.upd np
    refine (s.same sH).learn (k2 := tups (upd H p (.tup [.ref la, bV b, .str (chS kp)]))) tups_sub (fun b n => tups_tup n) ⟨p, la, ps, rfl, tups_of upd_same, tups_of (sH _ _ (s1 _ _ h1)), h2, fun i p q => tups_of (sH _ _ (s1 _ _ (h3 i p q)))⟩
/-! ### lists told of pure turns -/
def IG {α : Type} (l : List α) (f : α → Option V) (P : List As) (i : Nat) : List V → List As → Prop := fun acc Q => acc = (l.take i).filterMap f ∧ Q = P
section
variable {α : Type} {P P' F : List As} {K : PySem.W.Frag} {σ σ0 : St} {Q : VK} {D a b p T : Addr} {acc xs ys : List V} {y : V} {n i : Nat} {g : TG} {tt : TT} {te : TE} {own : List (Str × Nat)} {ns ms : List Int} {J : It} {l : List α} {f : α → Option V} {u : α}
theorem take_snoc (h : l[i]? = some u) : (l.take (i + 1)).filterMap f = (l.take i).filterMap f ++ (f u).toList := by
  rw [List.take_add_one, h, List.filterMap_append]
  cases e : f u <;> simp [e]
theorem e_some (h : l[i]? = some u) (e : f u = some y) (hn : l.length < 100000) (m : Imp P' (At (.ref D) (LstX ((l.take i).filterMap f)) :: P)) : Ent P' (fun H => puC D (IG l f P (i + 1)) y H) := fun H s => by
  have s' := s.imp m.imp
  have hz : ((l.take i).filterMap f).length < 100000 := by
    have h1 := List.length_filterMap_le f (l.take i)
    rw [List.length_take] at h1
    omega
  refine ⟨_, Sat.sees (F := P) s', Nat.lt_of_lt_of_le hz (by decide), _, _, ⟨rfl, rfl⟩, ?_⟩
  rw [take_snoc h, e]
  exact s'.set _ fun _ e => by cases e
theorem e_none (h : l[i]? = some u) (e : f u = none) (m : Imp P' (At (.ref D) (LstX ((l.take i).filterMap f)) :: P)) : Ent P' (fun H => nxC D (IG l f P (i + 1)) H) := fun H s =>
  ⟨_, _, ⟨rfl, rfl⟩, by rw [take_snoc h, e]; simpa using s.imp m.imp⟩
theorem e_lcG (l : List α) (f : α → Option V) {xs : List V} (s : Sees P p (.lst xs)) [hw : Wip σ own σ0] (hl : xs.length = l.length)
    (hs : ∀ D i x u, xs[i]? = some x → l[i]? = some u → Ent (At (.ref D) (LstX ((l.take i).filterMap f)) :: P) (fun H => g x σ0 H fun σ2 H2 => wipe σ2 (own.map (·.2)) = σ0 ∧ tt σ2 H2 fun b H3 => kIf b (te σ2 H3 (puC D (IG l f P (i + 1)))) (nxC D (IG l f P (i + 1)) H3)))
    (hd : ∀ D, Ent (At (.ref D) (LstX (l.filterMap f)) :: P) (fun H => Q (.ref D) H)) : Ent P (fun H => kLc (Itl K p) g tt te (own.map (·.2)) σ Q H) := by
  refine e_lcL xs hw.eq (fun i => IG l f P i) ⟨by simp, rfl⟩ (fun i acc P' q H h => by rw [q.2] at h; exact s.sees H h) (fun D i x acc P' e q => ?_) fun D acc P' q => ?_
  · obtain ⟨rfl, rfl⟩ := q
    have hi : i < l.length := by have := (List.getElem?_eq_some_iff.mp e).1; omega
    exact hs D i x l[i] e (List.getElem?_eq_getElem hi)
  · obtain ⟨rfl, rfl⟩ := q
    rw [hl, List.take_length]
    exact hd D
theorem e_lcGT (l : List α) (f : α → Option V) {xs : List V} (s : Sees P p (.tup xs)) [hw : Wip σ own σ0] (hl : xs.length = l.length)
    (hs : ∀ D i x u, xs[i]? = some x → l[i]? = some u → Ent (At (.ref D) (LstX ((l.take i).filterMap f)) :: P) (fun H => g x σ0 H fun σ2 H2 => wipe σ2 (own.map (·.2)) = σ0 ∧ tt σ2 H2 fun b H3 => kIf b (te σ2 H3 (puC D (IG l f P (i + 1)))) (nxC D (IG l f P (i + 1)) H3)))
    (hd : ∀ D, Ent (At (.ref D) (LstX (l.filterMap f)) :: P) (fun H => Q (.ref D) H)) : Ent P (fun H => kLc (Itt K p) g tt te (own.map (·.2)) σ Q H) := by
  refine e_lcT xs hw.eq (fun i => IG l f P i) ⟨by simp, rfl⟩ (fun i acc P' q H h => by rw [q.2] at h; exact s.sees H h) (fun D i x acc P' e q => ?_) fun D acc P' q => ?_
  · obtain ⟨rfl, rfl⟩ := q
    have hi : i < l.length := by have := (List.getElem?_eq_some_iff.mp e).1; omega
    exact hs D i x l[i] e (List.getElem?_eq_getElem hi)
  · obtain ⟨rfl, rfl⟩ := q
    rw [hl, List.take_length]
    exact hd D
theorem e_lcGR {f : Nat → Option V} {n : Nat} [hw : Wip σ own σ0]
    (hs : ∀ D i, i < n → (List.range n)[i]? = some i → Ent (At (.ref D) (LstX (((List.range n).take i).filterMap f)) :: P) (fun H => g (.int (i : Nat)) σ0 H fun σ2 H2 => wipe σ2 (own.map (·.2)) = σ0 ∧ tt σ2 H2 fun b H3 => kIf b (te σ2 H3 (puC D (IG (List.range n) f P (i + 1)))) (nxC D (IG (List.range n) f P (i + 1)) H3)))
    (hd : ∀ D, Ent (At (.ref D) (LstX ((List.range n).filterMap f)) :: P) (fun H => Q (.ref D) H)) : Ent P (fun H => kLc (Itr 0 n) g tt te (own.map (·.2)) σ Q H) := by
  refine e_lcR0 hw.eq (fun i => IG (List.range n) f P i) ⟨by simp, rfl⟩ (fun D i acc P' e q => ?_) fun D acc P' q => ?_
  · obtain ⟨rfl, rfl⟩ := q
    exact hs D i e (List.getElem?_range e)
  · obtain ⟨rfl, rfl⟩ := q
    rw [List.take_of_length_le (by rw [List.length_range]; exact Nat.le_refl _)]
    exact hd D
/-! zip -/
def kIZ (K : PySem.W.Frag) : List V → Hp → (It → Hp → Prop) → Prop := fun vs H1 R => ∃ a b xs ys, vs = [.ref a, .ref b] ∧ SqL K H1 a xs ∧ SqL K H1 b ys ∧ R (Itz K a b) H1
instance rd_zip {K : PySem.W.Frag} {t : TA} {σ : St} {H : Hp} {R : It → Hp → Prop} : Rd (iZip K t σ H R) (t σ H fun vs H1 => kIZ K vs H1 R) := ⟨id⟩
instance sp_kIZ {R : It → Hp → Prop} [s1 : Sees P a (.lst xs)] [s2 : Sees P b (.lst ys)] : Stp P (fun H => kIZ K [.ref a, .ref b] H R) P (fun H => R (Itz K a b) H) := ⟨fun k H h => ⟨a, b, xs, ys, rfl, SqL.of (s1.sees H h), SqL.of (s2.sees H h), k H h⟩⟩
theorem e_lcZ (l : List α) (f : α → Option V) {xs ys : List V} (s1 : Sees P a (.lst xs)) (s2 : Sees P b (.lst ys)) [hw : Wip σ own σ0] (hl : min xs.length ys.length = l.length)
    (hs : ∀ D i T x y u, xs[i]? = some x → ys[i]? = some y → l[i]? = some u → Ent (At (.ref T) (KTup [x, y]) :: At (.ref D) (LstX ((l.take i).filterMap f)) :: P) (fun H => g (.ref T) σ0 H fun σ2 H2 => wipe σ2 (own.map (·.2)) = σ0 ∧ tt σ2 H2 fun b H3 => kIf b (te σ2 H3 (puC D (IG l f P (i + 1)))) (nxC D (IG l f P (i + 1)) H3)))
    (hd : ∀ D, Ent (At (.ref D) (LstX (l.filterMap f)) :: P) (fun H => Q (.ref D) H)) : Ent P (fun H => kLc (Itz K a b) g tt te (own.map (·.2)) σ Q H) := by
  refine e_lc (walk_zip (K := K) (a := a) (b := b) (xs := xs) (ys := ys) rfl) hw.eq (fun i => IG l f P i) ⟨by simp, rfl⟩ (fun i acc P' _ q H h => by rw [q.2] at h; exact ⟨SqL.of (s1.sees H h), SqL.of (s2.sees H h)⟩) (fun D i acc P' hi q x H H' s y => ?_) fun D acc P' q => ?_
  · obtain ⟨rfl, rfl⟩ := q
    obtain ⟨T, x, y, rfl, nT, rfl, e1, e2⟩ := y
    have hi' : i < l.length := by omega
    exact hs D i T x y l[i] e1 e2 (List.getElem?_eq_getElem hi') _ (s.newK nT ⟨T, rfl, upd_same⟩)
  · obtain ⟨rfl, rfl⟩ := q
    rw [hl, List.take_length]
    exact hd D
theorem filterMap_ints {f : α → Option Int} : l.filterMap (fun u => (f u).map V.int) = (l.filterMap f).map V.int := by
  induction l with
  | nil => rfl
  | cons u r ih => cases h : f u <;> simp [h, ih]
end
end Qn

/-! S4: more of lists. -/
namespace Qn
open PySem L2
local macro_rules | `(tactic| fail "ne") => `(tactic| first | assumption | (apply Ne.symm; assumption) | (apply ne_of_none; assumption; assumption) | (apply Ne.symm; apply ne_of_none; assumption; assumption) | (apply ne_of; assumption; assumption; (intro z; cases z)))
local macro_rules | `(tactic| fail "hp") => `(tactic| with_reducible first | assumption | apply upd_same | (apply upd_old; rotate_left; assumption; fail "hp") | (apply upd_oth; rotate_left; fail "ne"; fail "hp"))
local macro_rules | `(tactic| fail "sl") => `(tactic| with_reducible first | assumption | (apply SqL.of; fail "hp"))
local macro_rules | `(tactic| fail "st") => `(tactic| with_reducible first | assumption | (apply SqT.of; fail "hp"))
local macro_rules | `(tactic| fail "tx") => `(tactic| with_reducible first | assumption | (apply Txt.c_Card; assumption) | (apply Txt.n_Card_line; assumption) | (apply Txt.n_Card_quantum; assumption) | (apply Txt.n_Card_share; assumption) | (apply Txt.n_Card_is_ready; assumption) | (apply Txt.n_Card_spent; assumption) | (apply Txt.c_Lines; assumption) | (apply Txt.n_Lines_rules; assumption) | (apply Txt.n_Lines_cards; assumption) | (apply Txt.n_Lines_rows; assumption) | (apply Txt.n_Lines_time; assumption))
local macro_rules | `(tactic| fail "lk") => `(tactic| with_reducible first | assumption | apply lk_LF_rules | apply lk_LF_cards | apply lk_LF_rows | apply lk_LF_time | apply lk_CF_line | apply lk_CF_quantum | apply lk_CF_share | apply lk_CF_is_ready | apply lk_CF_spent | (apply lk_LF_no; decide +kernel; decide +kernel; decide +kernel; decide +kernel))
local macro_rules | `(tactic| fail "at") => `(tactic| with_reducible first | assumption | apply mc_0 | apply mc_1 | apply mc_2 | apply mc_3 | apply mc_4 | apply at_0 | apply at_1 | apply at_2 | apply at_3 | apply at_4 | (apply atI_nat; assumption) | (apply at_z; assumption))
local macro_rules | `(tactic| fail "go") => `(tactic| repeat (first
  | apply rd_step
  | with_reducible (first
    | (apply r_kFld; fail "hp"; fail "tx"; fail "tx"; fail "lk")
    | (apply r_ixL; fail "sl"; fail "at") | (apply r_ixT; fail "st"; fail "at")
    | (apply r_kMeth; fail "hp"; fail "lk") | (apply r_kBML; fail "sl")
    | (apply r_lenL; fail "sl") | (apply r_lenT; fail "st") | (apply r_lenD; fail "hp")
    | (apply r_kDGetI; fail "hp"; (first | assumption | rfl)) | (apply r_kDGetS; fail "hp"; (first | assumption | apply mv_rules | apply mv_rows | apply mv_cards | apply mv_now)) | (apply r_kDInI; fail "hp") | (apply r_kDNotInI; fail "hp")
    | (apply r_kAugF; fail "hp"; fail "tx"; fail "tx"; fail "lk")
    | (apply r_isi_tuple_tuple; fail "st") | (apply r_isi_list_tuple; fail "sl") | (apply r_isi_list_list; fail "sl") | (apply r_isi_tuple_list; fail "st")
    | (apply r_kUnT; fail "st"; with_unfolding_all rfl) | (apply r_kIL; fail "sl") | (apply r_kIT; fail "st") | (apply r_kIE; fail "st") )))
local macro_rules | `(tactic| fail "eg") => `(tactic| repeat (first
  | apply stp
  | (refine e_rul0 (fun _ => ?_))

  | (refine e_tup0 (fun _ => ?_)) ))
local macro_rules | `(tactic| fail "egs") => `(tactic| (try (with_reducible refine e_seq ?_)) <;> repeat (first
  | apply stp
  | (with_reducible refine e_seq ?_)
  | (refine e_rul0 (fun _ => ?_))

  | (refine e_tup0 (fun _ => ?_)) ))
theorem mem_tasks {S : LSt} {t : Int} {n : Nat} (w : Wf n [] S) : t ∈ tasksOf S ↔ ∃ c, look S.cards t = some c := by
  unfold tasksOf
  rw [List.mem_filter]
  constructor
  · rintro ⟨_, h⟩
    cases e : look S.cards t with
    | none => rw [e] at h; cases h
    | some c => exact ⟨c, rfl⟩
  · rintro ⟨c, e⟩
    exact ⟨mem_all20 ⟨(w.key t c e).1, (w.key t c e).2.1⟩, by rw [e]; rfl⟩
theorem tasks_len (S : LSt) : (tasksOf S).length ≤ 20 := by
  unfold tasksOf
  exact Nat.le_trans (List.length_filter_le _ _) (by decide)
theorem flat_rows {S : LSt} {i : Nat} {n : Nat} (w : Wf n [] S) (hn : 0 < n) (h : i < S.rows.length) : (S.rows.take i).flatten.length + (S.row i).length ≤ 20 := by
  have hrow := LSt.row_at (S := S) h
  have fl := flat_len w hn
  have e1 := flat_snoc hrow
  have e2 : ((S.rows.take (i + 1)).flatten).length ≤ S.rows.flatten.length := by
    conv => rhs; rw [← List.take_append_drop (i + 1) S.rows]
    rw [List.flatten_append, List.length_append]; omega
  rw [e1, List.length_append] at e2
  omega
section
variable {P F G : List As} {K : PySem.W.Frag} {σ : St} {Q : VK} {a p q d : Addr} {R : Hp → Prop} {xs ys : List V} {ns ms : List Int} {i : Nat} {qs rs : List Addr} {xss yss : List (List Int)}
theorem e_sorted [s : Sees P p (.lst (ns.map V.int))] (k : ∀ (q : Addr) (ns' : List Int), ns'.Perm ns → ns'.Pairwise (· ≤ ·) → Ent (At (.ref q) (LstX (ns'.map V.int)) :: P) (fun H => Q (.ref q) H)) : Ent P (fun H => rSortedI K [.ref p] H Q) := fun H h =>
  ⟨p, ns, rfl, SqL.of (s.sees H h), fun ns' q h1 h2 nq => k q ns' h1 h2 _ (h.new nq ⟨q, rfl, upd_same⟩ fun _ e => by cases e)⟩
theorem e_min [s : Sees P p (.lst (ns.map V.int))] (hn : 0 < ns.length) (k : ∀ m, m ∈ ns → (∀ y, y ∈ ns → m ≤ y) → Ent P (fun H => Q (.int m) H)) : Ent P (fun H => rMin K [.ref p] H Q) := fun H h => ⟨p, ns, rfl, SqL.of (s.sees H h), hn, fun m h1 h2 => k m h1 h2 H h⟩
theorem e_max [s : Sees P p (.lst (ns.map V.int))] (hn : 0 < ns.length) (k : ∀ m, m ∈ ns → (∀ y, y ∈ ns → y ≤ m) → Ent P (fun H => Q (.int m) H)) : Ent P (fun H => rMax K [.ref p] H Q) := fun H h => ⟨p, ns, rfl, SqL.of (s.sees H h), hn, fun m h1 h2 => k m h1 h2 H h⟩
instance (priority := 900) sp_neI [s : Sees P p (.lst (ns.map V.int))] [s2 : Sees P q (.lst (ms.map V.int))] : Stp P (fun H => rNeD K (.ref p) (.ref q) H Q) P (fun H => Q (.bl (!decide (ns = ms))) H) :=
  ⟨fun k H h => r_neD (dp_ints (SqL.of (s.sees H h))) (dp_ints (SqL.of (s2.sees H h))) (sh_ints.ok (by decide)) (sh_ints.ok (by decide)) (by rw [eqv_ints]; exact k H h)⟩
instance (priority := 900) sp_eqI [s : Sees P p (.lst (ns.map V.int))] [s2 : Sees P q (.lst (ms.map V.int))] : Stp P (fun H => rEqD K (.ref p) (.ref q) H Q) P (fun H => Q (.bl (decide (ns = ms))) H) :=
  ⟨fun k H h => r_eqD (dp_ints (SqL.of (s.sees H h))) (dp_ints (SqL.of (s2.sees H h))) (sh_ints.ok (by decide)) (sh_ints.ok (by decide)) (by rw [eqv_ints]; exact k H h)⟩
theorem sh_rows : Sh 2 (.list (xss.map fun r => .list (r.map .int))) := sh_lst (sh_map fun r => sh_ints)
instance (priority := 1100) sp_neR [t1 : Take P (.ref p) (KRows qs xss) F] [t2 : Take P (.ref q) (KRows rs yss) G] : Stp P (fun H => rNeD K (.ref p) (.ref q) H Q) P (fun H => Q (.bl (!decide (xss = yss))) H) :=
  ⟨fun k H h => r_neD ((has_rows (K := K) (t := t1)).has H h) ((has_rows (K := K) (t := t2)).has H h) (sh_rows.ok (by decide)) (sh_rows.ok (by decide)) (by rw [eqv_rows]; exact k H h)⟩
/-! lists of lists made -/
def RowF (qs : List Addr) (xss : List (List Int)) (k : Hp) : Prop := ∀ (i : Nat) (q : Addr) (xs : List Int), qs[i]? = some q → xss[i]? = some xs → k q = some (.lst (xs.map V.int))
theorem RowF.mono {k k' : Hp} (s : Same k k') (h : RowF qs xss k) : RowF qs xss k' := fun i q xs e1 e2 => s _ _ (h i q xs e1 e2)
theorem rowsK_of {k h : Hp} {D : Addr} (t : Take P (.ref D) (KRows qs xss) F) (s : SatL P k h) : Dp K k (.ref D) (.list (xss.map fun r => .list (r.map .int))) := by
  obtain ⟨h3, h4, t3, t4, z2, ⟨D', e, h1, h2, h3'⟩, pG⟩ := t.tk _ _ s
  cases e
  refine .lst (SqL.of h1) ?_
  have : ∀ (qs : List Addr) (xss : List (List Int)), qs.length = xss.length → (∀ (i : Nat) (q : Addr) (xs : List Int), qs[i]? = some q → xss[i]? = some xs → k q = some (.lst (xs.map V.int))) → DpAll K k (qs.map V.ref) (xss.map fun xs => .list (xs.map .int)) := by
    intro qs
    induction qs with
    | nil => intro xss hl _; cases xss with
      | nil => exact .nil
      | cons _ _ => cases hl
    | cons q qs ih =>
      intro xss hl hh
      cases xss with
      | nil => cases hl
      | cons xs xss => exact .cons (dp_ints (SqL.of (hh 0 q xs rfl rfl))) (ih xss (by simpa using hl) fun i q xs e1 e2 => hh (i + 1) q xs e1 e2)
  exact this qs xss h2 h3'
instance (priority := 1100) sp_eqR [t1 : Take P (.ref p) (KRows qs xss) F] [t2 : Take P (.ref q) (KRows rs yss) G] : Stp P (fun H => rEqD K (.ref p) (.ref q) H Q) P (fun H => Q (.bl (decide (xss = yss))) H) :=
  ⟨fun k H h => r_eqD ((has_rows (K := K) (t := t1)).has H h) ((has_rows (K := K) (t := t2)).has H h) (sh_rows.ok (by decide)) (sh_rows.ok (by decide)) (by rw [eqv_rows]; exact k H h)⟩
theorem rowF_drop {k h : Hp} {D : Addr} {m : Nat} (t : Take P (.ref D) (KRows qs xss) F) (s : SatL P k h) : RowF (qs.drop m) (xss.drop m) k := by
  obtain ⟨h3, h4, t3, t4, z2, ⟨D', e, h1, h2, h3'⟩, pG⟩ := t.tk _ _ s
  intro i q xs e1 e2
  rw [List.getElem?_drop] at e1 e2
  exact h3' (m + i) q xs e1 e2
/-! the same data -/
theorem e_eqSame {x y : V} (d : PyData) [h1 : HasD K P x d] [h2 : HasD K P y d] (s1 : Sh 60 d) (k : Ent P (fun H => Q (.bl true) H)) : Ent P (fun H => rEqD K x y H Q) :=
  e_eqD d d s1 s1 (by rw [PySem.SeqAt.eqv_refl d s1.1]; exact k)
theorem e_neSame {x y : V} (d : PyData) [h1 : HasD K P x d] [h2 : HasD K P y d] (s1 : Sh 60 d) (k : Ent P (fun H => Q (.bl false) H)) : Ent P (fun H => rNeD K x y H Q) :=
  e_neD d d s1 s1 (by rw [PySem.SeqAt.eqv_refl d s1.1]; exact k)
/-! tuples -/
theorem e_catT (zs : List V) {xs ys : List V} [s : Sees P p (.tup xs)] [s2 : Sees P q (.tup ys)] (e : xs ++ ys = zs) (hx : xs ≠ []) (hy : ys ≠ []) (hz : zs.length ≤ 1000) (k : ∀ l, Ent (At (.ref l) (KTup zs) :: P) (fun H => Q (.ref l) H)) : Ent P (fun H => rCatA K (.ref p) (.ref q) H Q) := by
  subst e
  exact fun H h => ⟨p, q, _, _, rfl, rfl, SqT.of (s.sees H h), SqT.of (s2.sees H h), Nat.le_trans (show xs.length + ys.length ≤ 1000 by rw [List.length_append] at hz; exact hz) (by decide), fun e => absurd e hx, fun _ e => absurd e hy, fun _ _ l nl => k l _ (h.newK nl ⟨l, rfl, upd_same⟩)⟩
theorem e_slT {lo hi : Option Int} [s : Sees P p (.tup xs)] (hw : ¬ (HT.sIx xs.length 0 lo = 0 ∧ HT.sIx xs.length xs.length hi = xs.length)) (k : ∀ q, Ent (At (.ref q) (KTup (cutV xs lo hi)) :: P) (fun H => Q (.ref q) H)) : Ent P (fun H => rSlA K (.ref p) lo hi H Q) :=
  fun H h => ⟨p, xs, rfl, SqT.of (s.sees H h), fun e => absurd e hw, fun _ l nl => k l _ (h.newK nl ⟨l, rfl, upd_same⟩)⟩
theorem atI_last {α : Type} {xs : List α} {x : α} : atI (xs ++ [x]) (-1) = some x := by
  unfold atI ixN
  rw [if_neg (by decide), List.length_append]
  have e1 : (0 : Int) ≤ -1 + ((xs.length + [x].length : Nat) : Int) := by show (0 : Int) ≤ -1 + ((xs.length + 1 : Nat) : Int); omega
  have e2 : (-1 + ((xs.length + [x].length : Nat) : Int)).toNat = xs.length := by show (-1 + ((xs.length + 1 : Nat) : Int)).toNat = _; omega
  have e3 : -((xs.length + [x].length : Nat) : Int) ≤ -1 := by show -((xs.length + 1 : Nat) : Int) ≤ -1; omega
  simp only [e1, e2, e3, if_true, Option.bind_some]
  simp
theorem e_card' {a : Adr} {R : Rul} {S : LSt} {t : Int} {c : Card} {x : Addr} {E : XK} (xs : List V) [tk : Take P (.ref x) (LinX a R S) F] (h : look S.cards t = some c) (e : [V.int c.line, .int c.q, .int c.sh, .bl c.rdy] = xs) (k : ∀ p, Ent (At (.ref p) (KTup xs) :: P) (fun H => Q (.ref p) H)) : Ent P (fun H => sp_Lines_card K a [.ref x, .int t] H Q E) := by
  subst e; exact e_card h k
theorem e_mkRows [t : Take P (.ref p) (LstX (qs.map V.ref)) F] (hl : qs.length = xss.length) (hf : ∀ k h, SatL F k h → RowF qs xss k) {X : Hp → Prop} (e : Ent (At (.ref p) (KRows qs xss) :: F) X) : Ent P X :=
  e_frz (p := p) (o := .lst (qs.map V.ref)) (t := t) fun H s => e H (s.imp fun k h x => by
    obtain ⟨h1, h2, s1, s2, z, ⟨p', e', hp⟩, pF⟩ := x
    cases e'
    exact ⟨hnil, h2, same_nil, s2, apart_nil, ⟨p, rfl, hp, hl, hf k h2 pF⟩, pF⟩)
end
end Qn

/-! S5: while; numbers or None; dicts of numbers. -/
namespace Qn
open PySem L2
local macro_rules | `(tactic| fail "ne") => `(tactic| first | assumption | (apply Ne.symm; assumption) | (apply ne_of_none; assumption; assumption) | (apply Ne.symm; apply ne_of_none; assumption; assumption) | (apply ne_of; assumption; assumption; (intro z; cases z)))
local macro_rules | `(tactic| fail "hp") => `(tactic| with_reducible first | assumption | apply upd_same | (apply upd_old; rotate_left; assumption; fail "hp") | (apply upd_oth; rotate_left; fail "ne"; fail "hp"))
local macro_rules | `(tactic| fail "sl") => `(tactic| with_reducible first | assumption | (apply SqL.of; fail "hp"))
local macro_rules | `(tactic| fail "st") => `(tactic| with_reducible first | assumption | (apply SqT.of; fail "hp"))
local macro_rules | `(tactic| fail "tx") => `(tactic| with_reducible first | assumption | (apply Txt.c_Card; assumption) | (apply Txt.n_Card_line; assumption) | (apply Txt.n_Card_quantum; assumption) | (apply Txt.n_Card_share; assumption) | (apply Txt.n_Card_is_ready; assumption) | (apply Txt.n_Card_spent; assumption) | (apply Txt.c_Lines; assumption) | (apply Txt.n_Lines_rules; assumption) | (apply Txt.n_Lines_cards; assumption) | (apply Txt.n_Lines_rows; assumption) | (apply Txt.n_Lines_time; assumption))
local macro_rules | `(tactic| fail "lk") => `(tactic| with_reducible first | assumption | apply lk_LF_rules | apply lk_LF_cards | apply lk_LF_rows | apply lk_LF_time | apply lk_CF_line | apply lk_CF_quantum | apply lk_CF_share | apply lk_CF_is_ready | apply lk_CF_spent | (apply lk_LF_no; decide +kernel; decide +kernel; decide +kernel; decide +kernel))
local macro_rules | `(tactic| fail "at") => `(tactic| with_reducible first | assumption | apply mc_0 | apply mc_1 | apply mc_2 | apply mc_3 | apply mc_4 | apply at_0 | apply at_1 | apply at_2 | apply at_3 | apply at_4 | (apply atI_nat; assumption) | (apply at_z; assumption))
local macro_rules | `(tactic| fail "go") => `(tactic| repeat (first
  | apply rd_step
  | with_reducible (first
    | (apply r_kFld; fail "hp"; fail "tx"; fail "tx"; fail "lk")
    | (apply r_ixL; fail "sl"; fail "at") | (apply r_ixT; fail "st"; fail "at")
    | (apply r_kMeth; fail "hp"; fail "lk") | (apply r_kBML; fail "sl")
    | (apply r_lenL; fail "sl") | (apply r_lenT; fail "st") | (apply r_lenD; fail "hp")
    | (apply r_kDGetI; fail "hp"; (first | assumption | rfl)) | (apply r_kDGetS; fail "hp"; (first | assumption | apply mv_rules | apply mv_rows | apply mv_cards | apply mv_now)) | (apply r_kDInI; fail "hp") | (apply r_kDNotInI; fail "hp")
    | (apply r_kAugF; fail "hp"; fail "tx"; fail "tx"; fail "lk")
    | (apply r_isi_tuple_tuple; fail "st") | (apply r_isi_list_tuple; fail "sl") | (apply r_isi_list_list; fail "sl") | (apply r_isi_tuple_list; fail "st")
    | (apply r_kUnT; fail "st"; with_unfolding_all rfl) | (apply r_kIL; fail "sl") | (apply r_kIT; fail "st") | (apply r_kIE; fail "st") )))
local macro_rules | `(tactic| fail "eg") => `(tactic| repeat (first
  | apply stp
  | (refine e_rul0 (fun _ => ?_))

  | (refine e_tup0 (fun _ => ?_)) ))
local macro_rules | `(tactic| fail "egs") => `(tactic| (try (with_reducible refine e_seq ?_)) <;> repeat (first
  | apply stp
  | (with_reducible refine e_seq ?_)
  | (refine e_rul0 (fun _ => ?_))

  | (refine e_tup0 (fun _ => ?_)) ))
/-! ### while -/
inductive dnJ (J : Nat → St → List As → Prop) (m : Nat) (σ : St) (H : Hp) : Prop
  | mk (m' : Nat) (P : List As) (l : m' < m) (h : J m' σ P) (s : Sat P H) : dnJ J m σ H
def kWh (J : Nat → St → List As → Prop) (m : Nat) (tb : TS) (D : Ends) (σ : St) (b : Bool) (H1 : Hp) : Prop :=
  if b = true then ∃ N : St → Hp → Prop, (∀ σ' H', N σ' H' → ∃ m', m' < m ∧ nxJ J m' σ' H') ∧ tb { D with nx := N, ct := N, bk := D.nx } σ H1 else D.nx σ H1
section
variable {P P' F G : List As} {K : PySem.W.Frag} {σ : St} {Q : VK} {D : Ends} {a p q d : Addr} {R : Hp → Prop} {xs ys : List V} {ns ms : List Int} {i : Nat} {m : Nat} {J : Nat → St → List As → Prop} {c : TT} {tb : TS} {b : Bool} {t : Int}
theorem e_dn (h : ∃ m' P', m' < m ∧ J m' σ P' ∧ Imp P P') : Ent P (fun H => dnJ J m σ H) := fun H s => by
  obtain ⟨m', P', l, h, i⟩ := h
  exact ⟨m', P', l, h, s.imp i.imp⟩
theorem e_while (J : Nat → St → List As → Prop) {P0 : List As} (h0 : ∃ m, J m σ P0) [i : Imp P P0] (hs : ∀ m σ P, J m σ P → Ent P (fun H => c σ H fun b H1 => kWh J m tb D σ b H1)) : Ent P (fun H => tWhile c tb D σ H) := fun H s => by
  obtain ⟨m, h0⟩ := h0
  exact ⟨nxJ J, ⟨m, P0, h0, s.imp i.imp⟩, fun m σ H ⟨P, h, s⟩ => hs m σ P h H s⟩
theorem e_whT (e : Ent P (fun H => tb { D with nx := dnJ J m, ct := dnJ J m, bk := D.nx } σ H)) : Ent P (fun H => kWh J m tb D σ true H) := fun H s =>
  show kWh J m tb D σ true H from by
    unfold kWh
    rw [if_pos rfl]
    exact ⟨dnJ J m, fun σ' H' ⟨m', P, l, h, s⟩ => ⟨m', l, P, h, s⟩, e H s⟩
theorem e_whF (e : Ent P (fun H => D.nx σ H)) : Ent P (fun H => kWh J m tb D σ false H) := e
theorem e_wh (h1 : b = true → Ent P (fun H => tb { D with nx := dnJ J m, ct := dnJ J m, bk := D.nx } σ H)) (h2 : b = false → Ent P (fun H => D.nx σ H)) : Ent P (fun H => kWh J m tb D σ b H) := by
  cases b with
  | true => exact e_whT (h1 rfl)
  | false => exact e_whF (h2 rfl)
theorem e_whD {p : Prop} [Decidable p] (h1 : p → Ent P (fun H => tb { D with nx := dnJ J m, ct := dnJ J m, bk := D.nx } σ H)) (h2 : ¬ p → Ent P (fun H => D.nx σ H)) : Ent P (fun H => kWh J m tb D σ (decide p) H) := e_wh (fun h => h1 (of_decide_eq_true h)) fun h => h2 (of_decide_eq_false h)
theorem e_whN {p : Prop} [Decidable p] (h1 : ¬ p → Ent P (fun H => tb { D with nx := dnJ J m, ct := dnJ J m, bk := D.nx } σ H)) (h2 : p → Ent P (fun H => D.nx σ H)) : Ent P (fun H => kWh J m tb D σ (!decide p) H) := e_wh (fun h => h1 (by simpa using h)) fun h => h2 (by simpa using h)
/-! numbers or None -/
theorem bV_inj {o u : Option Int} : bV o = bV u ↔ o = u := by
  cases o <;> cases u <;> simp [bV]
instance rd_neO {o u : Option Int} {H : Hp} : Qn.Rd (rNe (bV o) (bV u) H Q) (Q (.bl (!decide (o = u))) H) := ⟨fun k => ⟨by cases o <;> cases u <;> rfl, by
  have e : decide (bV o = bV u) = decide (o = u) := by simp [bV_inj]
  rw [e]; exact k⟩⟩
instance rd_eqO {o u : Option Int} {H : Hp} : Qn.Rd (rEq (bV o) (bV u) H Q) (Q (.bl (decide (o = u))) H) := ⟨fun k => ⟨by cases o <;> cases u <;> rfl, by
  have e : decide (bV o = bV u) = decide (o = u) := by simp [bV_inj]
  rw [e]; exact k⟩⟩
instance rd_neIO {i : Int} {u : Option Int} {H : Hp} : Qn.Rd (rNe (.int i) (bV u) H Q) (Q (.bl (!decide (some i = u))) H) := ⟨fun k => (rd_neO (o := some i) (u := u) (H := H) (Q := Q)).by_ k⟩
instance rd_neOI {i : Int} {u : Option Int} {H : Hp} : Qn.Rd (rNe (bV u) (.int i) H Q) (Q (.bl (!decide (u = some i))) H) := ⟨fun k => (rd_neO (o := u) (u := some i) (H := H) (Q := Q)).by_ k⟩
instance rd_neON {u : Option Int} {H : Hp} : Qn.Rd (rNe (bV u) .non H Q) (Q (.bl (!decide (u = none))) H) := ⟨fun k => (rd_neO (o := u) (u := none) (H := H) (Q := Q)).by_ k⟩
instance rd_eqIO {i : Int} {u : Option Int} {H : Hp} : Qn.Rd (rEq (.int i) (bV u) H Q) (Q (.bl (decide (some i = u))) H) := ⟨fun k => (rd_eqO (o := some i) (u := u) (H := H) (Q := Q)).by_ k⟩
/-! a dict of numbers, of pairs -/
def PrI (ps : List Addr) (ts : List Int) (f : Int → Int) (k : Hp) : Prop := ∀ (i : Nat) (p : Addr) (t : Int), ps[i]? = some p → ts[i]? = some t → k p = some (.tup [.int t, .int (f t)])
theorem PrI.mono {ps : List Addr} {ts : List Int} {f : Int → Int} {k k' : Hp} (s : Same k k') (h : PrI ps ts f k) : PrI ps ts f k' := fun i p t e1 e2 => s _ _ (h i p t e1 e2)
theorem pairsI_of {H k : Hp} {f : Int → Int} (s : Same k H) : ∀ {ps : List Addr} {ts : List Int}, ps.length = ts.length → PrI ps ts f k →
    PySem.Paired (fun p kv => SqT K H p [kV kv.1, kv.2]) ps (ts.map fun t => ((Sum.inl t : Key), V.int (f t)))
  | [], [], _, _ => .nil
  | p :: ps, t :: ts, hl, h => .cons (SqT.of (s _ _ (h 0 p t rfl rfl))) (pairsI_of s (by simpa using hl) fun i p t e1 e2 => h (i + 1) p t e1 e2)
  | [], _ :: _, hl, _ => by cases hl
  | _ :: _, [], hl, _ => by cases hl
theorem e_dictI {ps : List Addr} {ts : List Int} {f : Int → Int} [s1 : Sees P a (.lst (ps.map V.ref))] (hl : ps.length = ts.length) (hp : ∀ k h, SatL P k h → PrI ps ts f k)
    (k : ∀ (d : Addr) (kvs : List (Key × V)), (∀ t, valV kvs (.inl t) = if t ∈ ts then some (.int (f t)) else none) → kvs.length ≤ ts.length → Ent (At (.ref d) (DctX kvs) :: P) (fun H => Q (.ref d) H)) : Ent P (fun H => cDictP K [.ref a] H Q) := fun H s => by
  have sH := s1.sees H s
  have s' := s
  obtain ⟨g, h, z1, z2, ap, nt, y⟩ := s'
  refine ⟨a, ps, _, rfl, SqL.of sH, pairsI_of z1 hl (hp g h y), fun d nd => k d _ (fun t => ?_) ?_ _ (s.new nd ⟨d, rfl, upd_same⟩ fun _ e => by cases e)⟩
  · have mv := merge_val (G := fun t v => v = .int (f t)) (kvs := ts.map fun t => ((Sum.inl t : Key), V.int (f t))) (acc := []) (t := t) fun p hp => by
      obtain ⟨u, _, rfl⟩ := List.mem_map.mp hp
      exact ⟨u, rfl, rfl⟩
    by_cases ht : t ∈ ts
    · rw [if_pos ht]
      obtain ⟨v, e, rfl⟩ := mv.1 ⟨_, List.mem_map.mpr ⟨t, ht, rfl⟩, rfl⟩
      exact e
    · rw [if_neg ht]
      rw [mv.2 fun p hp z => by
        obtain ⟨u, hu, rfl⟩ := List.mem_map.mp hp
        exact ht (Sum.inl.inj z ▸ hu)]
      rfl
  · have := merge_len (kvs := ts.map fun t => ((Sum.inl t : Key), V.int (f t))) (acc := [])
    rw [List.length_map] at this
    simpa using this
end
end Qn

/-! S6: dicts walked. -/
namespace Qn
open PySem L2
local macro_rules | `(tactic| fail "ne") => `(tactic| first | assumption | (apply Ne.symm; assumption) | (apply ne_of_none; assumption; assumption) | (apply Ne.symm; apply ne_of_none; assumption; assumption) | (apply ne_of; assumption; assumption; (intro z; cases z)))
local macro_rules | `(tactic| fail "hp") => `(tactic| with_reducible first | assumption | apply upd_same | (apply upd_old; rotate_left; assumption; fail "hp") | (apply upd_oth; rotate_left; fail "ne"; fail "hp"))
local macro_rules | `(tactic| fail "sl") => `(tactic| with_reducible first | assumption | (apply SqL.of; fail "hp"))
local macro_rules | `(tactic| fail "st") => `(tactic| with_reducible first | assumption | (apply SqT.of; fail "hp"))
local macro_rules | `(tactic| fail "tx") => `(tactic| with_reducible first | assumption | (apply Txt.c_Card; assumption) | (apply Txt.n_Card_line; assumption) | (apply Txt.n_Card_quantum; assumption) | (apply Txt.n_Card_share; assumption) | (apply Txt.n_Card_is_ready; assumption) | (apply Txt.n_Card_spent; assumption) | (apply Txt.c_Lines; assumption) | (apply Txt.n_Lines_rules; assumption) | (apply Txt.n_Lines_cards; assumption) | (apply Txt.n_Lines_rows; assumption) | (apply Txt.n_Lines_time; assumption))
local macro_rules | `(tactic| fail "lk") => `(tactic| with_reducible first | assumption | apply lk_LF_rules | apply lk_LF_cards | apply lk_LF_rows | apply lk_LF_time | apply lk_CF_line | apply lk_CF_quantum | apply lk_CF_share | apply lk_CF_is_ready | apply lk_CF_spent | (apply lk_LF_no; decide +kernel; decide +kernel; decide +kernel; decide +kernel))
local macro_rules | `(tactic| fail "at") => `(tactic| with_reducible first | assumption | apply mc_0 | apply mc_1 | apply mc_2 | apply mc_3 | apply mc_4 | apply at_0 | apply at_1 | apply at_2 | apply at_3 | apply at_4 | (apply atI_nat; assumption) | (apply at_z; assumption))
local macro_rules | `(tactic| fail "go") => `(tactic| repeat (first
  | apply rd_step
  | with_reducible (first
    | (apply r_kFld; fail "hp"; fail "tx"; fail "tx"; fail "lk")
    | (apply r_ixL; fail "sl"; fail "at") | (apply r_ixT; fail "st"; fail "at")
    | (apply r_kMeth; fail "hp"; fail "lk") | (apply r_kBML; fail "sl")
    | (apply r_lenL; fail "sl") | (apply r_lenT; fail "st") | (apply r_lenD; fail "hp")
    | (apply r_kDGetI; fail "hp"; (first | assumption | rfl)) | (apply r_kDGetS; fail "hp"; (first | assumption | apply mv_rules | apply mv_rows | apply mv_cards | apply mv_now)) | (apply r_kDInI; fail "hp") | (apply r_kDNotInI; fail "hp")
    | (apply r_kAugF; fail "hp"; fail "tx"; fail "tx"; fail "lk")
    | (apply r_isi_tuple_tuple; fail "st") | (apply r_isi_list_tuple; fail "sl") | (apply r_isi_list_list; fail "sl") | (apply r_isi_tuple_list; fail "st")
    | (apply r_kUnT; fail "st"; with_unfolding_all rfl) | (apply r_kIL; fail "sl") | (apply r_kIT; fail "st") | (apply r_kIE; fail "st") )))
local macro_rules | `(tactic| fail "eg") => `(tactic| repeat (first
  | apply stp
  | (refine e_rul0 (fun _ => ?_))

  | (refine e_tup0 (fun _ => ?_)) ))
local macro_rules | `(tactic| fail "egs") => `(tactic| (try (with_reducible refine e_seq ?_)) <;> repeat (first
  | apply stp
  | (with_reducible refine e_seq ?_)
  | (refine e_rul0 (fun _ => ?_))

  | (refine e_tup0 (fun _ => ?_)) ))
/-! ### a dict walked -/
def kUnl (d : Addr) (od : Obj) (kvs : List (Key × V)) (Q : VK) : VK := fun v H' => H' d = some (.frz od (.dK kvs)) ∧ Q v (upd H' d (.dK kvs))
abbrev FrzX (od : Obj) (kvs : List (Key × V)) : Ty := Cel (.frz od (.dK kvs))
def kIK (x : V) (H1 : Hp) (R : It → Hp → Prop) : Prop := ∃ d o, x = .ref d ∧ ((∃ kvs, H1 d = some (.frz o (.dK kvs)) ∧ R (Itk d o kvs) H1) ∨ ∃ kvs, H1 d = some (.frz o (.dT kvs)) ∧ R (Itkt d o kvs) H1)
instance rd_iKeys {td : TE} {σ : St} {H : Hp} {R : It → Hp → Prop} : Rd (iKeys td σ H R) (td σ H fun x H1 => kIK x H1 R) := ⟨id⟩
section
variable {P P' F G : List As} {K : PySem.W.Frag} {σ σ0 : St} {Q : VK} {D a p q d : Addr} {R : Hp → Prop} {xs ys vs : List V} {ts : List Int} {i : Nat} {t : Int} {v : V} {te : TE} {tt : TT} {g : TG} {kvs : List (Key × V)} {kv : Key × V} {od : Obj} {own : List (Str × Nat)}
theorem e_lockE (d : Addr) [tk : Take P (.ref d) (DctX kvs) F] (k : ∀ od, Ent (At (.ref d) (FrzX od kvs) :: F) (fun H => te σ H (kUnl d od kvs Q))) : Ent P (fun H => tLockE te σ H Q) := fun H s => by
  have s' := s.imp tk.tk
  exact ⟨d, .dK kvs, Sat.sees (F := F) s', trivial, fun od => k od _ (s'.set _ fun _ e => by cases e)⟩
theorem e_unl (tk : Take P (.ref d) (FrzX od kvs) F) (k : Ent (At (.ref d) (DctX kvs) :: F) (fun H => Q v H)) : Ent P (fun H => kUnl d od kvs Q v H) := fun H s => by
  have s' := s.imp tk.tk
  exact ⟨Sat.sees (F := F) s', k _ (s'.set _ fun _ e => by cases e)⟩
instance sp_kIK {R : It → Hp → Prop} [s : Sees P d (.frz od (.dK kvs))] : Stp P (fun H => kIK (.ref d) H R) P (fun H => R (Itk d od kvs) H) := ⟨fun k H h => ⟨d, od, rfl, .inl ⟨kvs, s.sees H h, k H h⟩⟩⟩
/-- reading of a dict that is walked -/
theorem e_dgetF (e : valV kvs (.inl t) = some v) [s : Sees P p (.frz od (.dK kvs))] (k : Ent P (fun H => Q v H)) : Ent P (fun H => kDGet (.ref p) (.int t) H Q) := fun H h =>
  ⟨p, v, rfl, .inl ⟨kvs, .inl t, .inr ⟨od, s.sees H h⟩, rfl, e.symm⟩, k H h⟩
theorem e_kel {X : Hp → Prop} (p : Addr) (o : HO) (f : ∀ k h, SatL P k h → k p = some o) (e : Ent (At (.ref p) (Kel o) :: P) X) : Ent P X := fun H s => e H (s.imp fun k h x => ⟨hnil, h, same_nil, Same.refl _, apart_nil, ⟨p, rfl, f k h x⟩, x⟩)
theorem e_fact {φ : Prop} {X : Hp → Prop} (f : ∀ k h, SatL P k h → φ) (e : φ → Ent P X) : Ent P X := fun H s => by
  have s' := s
  obtain ⟨k, h, _, _, _, _, y⟩ := s'
  exact e (f k h y) H s
/-! a dict by its keys' and values' lists -/
def dkv (ts : List Int) (vs : List V) : List (Key × V) := (ts.zip vs).map fun p => ((Sum.inl p.1 : Key), p.2)
theorem dkv_len (h : ts.length = vs.length) : (dkv ts vs).length = ts.length := by unfold dkv; rw [List.length_map, List.length_zip]; omega
theorem dkv_none : ∀ {ts : List Int} {vs : List V}, t ∉ ts → valV (dkv ts vs) (.inl t) = none
  | [], _, _ => rfl
  | _ :: _, [], _ => rfl
  | u :: ts, v :: vs, h => by
    show valV ((Sum.inl u, v) :: dkv ts vs) (.inl t) = none
    rw [valV_neg (fun z => h (by rw [Sum.inl.inj z]; exact List.mem_cons_self)), dkv_none fun z => h (List.mem_cons_of_mem _ z)]
theorem dkv_at : ∀ {ts : List Int} {vs : List V} {i : Nat}, ts.Nodup → ts[i]? = some t → vs[i]? = some v → valV (dkv ts vs) (.inl t) = some v
  | u :: ts, w :: vs, 0, _, e1, e2 => by
    cases Option.some.inj e1; cases Option.some.inj e2
    show valV ((Sum.inl _, _) :: dkv ts vs) _ = _
    rw [valV_pos rfl]
  | u :: ts, w :: vs, i + 1, nd, e1, e2 => by
    have nd' := List.nodup_cons.mp nd
    show valV ((Sum.inl u, w) :: dkv ts vs) (.inl t) = some v
    rw [valV_neg (fun z => nd'.1 (by rw [Sum.inl.inj z]; exact List.mem_of_getElem? (show ts[i]? = some t from e1)))]
    exact dkv_at nd'.2 e1 e2
theorem dkv_key (h : (dkv ts vs)[i]? = some kv) : ∃ t v, ts[i]? = some t ∧ vs[i]? = some v ∧ kv = (.inl t, v) := by
  unfold dkv at h
  rw [List.getElem?_map] at h
  obtain ⟨p, e, rfl⟩ := Option.map_eq_some_iff.mp h
  rw [List.getElem?_zip_eq_some] at e
  exact ⟨p.1, p.2, e.1, e.2, rfl⟩
theorem merge_dkv : ∀ {ts : List Int} {vs : List V} {acc : List (Key × V)}, ts.Nodup → (∀ t ∈ ts, valV acc (.inl t) = none) → mergeK acc (dkv ts vs) = acc ++ dkv ts vs
  | [], _, acc, _, _ => by show acc = acc ++ []; rw [List.append_nil]
  | _ :: _, [], acc, _, _ => by show acc = acc ++ []; rw [List.append_nil]
  | t :: ts, v :: vs, acc, nd, h => by
    have nd' := List.nodup_cons.mp nd
    show mergeK (putK acc (.inl t) v) (dkv ts vs) = acc ++ ((Sum.inl t, v) :: dkv ts vs)
    rw [putK_new _ (h t List.mem_cons_self), merge_dkv nd'.2 fun u hu => ?_]
    · simp
    · rw [← putK_new v (h t List.mem_cons_self), valV_put, if_neg (fun z => nd'.1 (by rw [← Sum.inl.inj z]; exact hu))]
      exact h u (List.mem_cons_of_mem _ hu)
def PrV (ps : List Addr) (ts : List Int) (vs : List V) (k : Hp) : Prop := ∀ (i : Nat) (p : Addr) (t : Int) (v : V), ps[i]? = some p → ts[i]? = some t → vs[i]? = some v → k p = some (.tup [.int t, v])
theorem PrV.mono {ps : List Addr} {k k' : Hp} (s : Same k k') (h : PrV ps ts vs k) : PrV ps ts vs k' := fun i p t v e1 e2 e3 => s _ _ (h i p t v e1 e2 e3)
theorem pairsV_of {H k : Hp} (s : Same k H) : ∀ {ps : List Addr} {ts : List Int} {vs : List V}, ps.length = ts.length → ps.length = vs.length → PrV ps ts vs k → PySem.Paired (fun p kv => SqT K H p [kV kv.1, kv.2]) ps (dkv ts vs)
  | [], [], [], _, _, _ => .nil
  | p :: ps, t :: ts, v :: vs, hl, hl2, h => .cons (SqT.of (s _ _ (h 0 p t v rfl rfl rfl))) (pairsV_of s (by simpa using hl) (by simpa using hl2) fun i p t v e1 e2 e3 => h (i + 1) p t v e1 e2 e3)
  | [], _ :: _, _, hl, _, _ => by cases hl
  | [], [], _ :: _, _, hl, _ => by cases hl
  | _ :: _, [], _, hl, _, _ => by cases hl
  | _ :: _, _ :: _, [], _, hl, _ => by cases hl
theorem e_dictV {ps : List Addr} [s1 : Sees P a (.lst (ps.map V.ref))] (hl : ps.length = ts.length) (hl2 : ps.length = vs.length) (nd : ts.Nodup) (hp : ∀ k h, SatL P k h → PrV ps ts vs k)
    (k : ∀ d, Ent (At (.ref d) (DctX (dkv ts vs)) :: P) (fun H => Q (.ref d) H)) : Ent P (fun H => cDictP K [.ref a] H Q) := fun H s => by
  have sH := s1.sees H s
  have s' := s
  obtain ⟨g, h, z1, z2, ap, nt, y⟩ := s'
  refine ⟨a, ps, _, rfl, SqL.of sH, pairsV_of z1 hl hl2 (hp g h y), fun d nd' => ?_⟩
  rw [merge_dkv nd fun t _ => rfl]
  exact k d _ (s.new nd' ⟨d, rfl, upd_same⟩ fun _ e => by cases e)
/-- a list told of the keys -/
theorem e_lcK {f : Int → Option V} [s : Sees P d (.frz od (.dK (dkv ts vs)))] [hw : Wip σ own σ0] (hl : ts.length = vs.length)
    (hs : ∀ D i t, ts[i]? = some t → Ent (At (.ref D) (LstX ((ts.take i).filterMap f)) :: P) (fun H => g (.int t) σ0 H fun σ2 H2 => wipe σ2 (own.map (·.2)) = σ0 ∧ tt σ2 H2 fun b H3 => kIf b (te σ2 H3 (puC D (IG ts f P (i + 1)))) (nxC D (IG ts f P (i + 1)) H3)))
    (hd : ∀ D, Ent (At (.ref D) (LstX (ts.filterMap f)) :: P) (fun H => Q (.ref D) H)) : Ent P (fun H => kLc (Itk d od (dkv ts vs)) g tt te (own.map (·.2)) σ Q H) := by
  refine e_lc (walk_keys (d := d) (o := od) (kvs := dkv ts vs)) hw.eq (fun i => IG ts f P i) ⟨by simp, rfl⟩ (fun i acc P' _ q H h => by rw [q.2] at h; exact s.sees H h) (fun D i acc P' hi q x H H' sS y => ?_) fun D acc P' q => ?_
  · obtain ⟨rfl, rfl⟩ := q
    obtain ⟨rfl, k, v, e, rfl⟩ := y
    obtain ⟨t, v', e1, e2, e3⟩ := dkv_key e
    cases e3
    exact hs D i t e1 _ sS
  · obtain ⟨rfl, rfl⟩ := q
    rw [dkv_len hl, List.take_length]
    exact hd D
end
end Qn

/-! S7: dicts of numbers as pairs; pop, setdefault. -/
namespace Qn
open PySem L2
local macro_rules | `(tactic| fail "ne") => `(tactic| first | assumption | (apply Ne.symm; assumption) | (apply ne_of_none; assumption; assumption) | (apply Ne.symm; apply ne_of_none; assumption; assumption) | (apply ne_of; assumption; assumption; (intro z; cases z)))
local macro_rules | `(tactic| fail "hp") => `(tactic| with_reducible first | assumption | apply upd_same | (apply upd_old; rotate_left; assumption; fail "hp") | (apply upd_oth; rotate_left; fail "ne"; fail "hp"))
local macro_rules | `(tactic| fail "sl") => `(tactic| with_reducible first | assumption | (apply SqL.of; fail "hp"))
local macro_rules | `(tactic| fail "st") => `(tactic| with_reducible first | assumption | (apply SqT.of; fail "hp"))
local macro_rules | `(tactic| fail "tx") => `(tactic| with_reducible first | assumption | (apply Txt.c_Card; assumption) | (apply Txt.n_Card_line; assumption) | (apply Txt.n_Card_quantum; assumption) | (apply Txt.n_Card_share; assumption) | (apply Txt.n_Card_is_ready; assumption) | (apply Txt.n_Card_spent; assumption) | (apply Txt.c_Lines; assumption) | (apply Txt.n_Lines_rules; assumption) | (apply Txt.n_Lines_cards; assumption) | (apply Txt.n_Lines_rows; assumption) | (apply Txt.n_Lines_time; assumption))
local macro_rules | `(tactic| fail "lk") => `(tactic| with_reducible first | assumption | apply lk_LF_rules | apply lk_LF_cards | apply lk_LF_rows | apply lk_LF_time | apply lk_CF_line | apply lk_CF_quantum | apply lk_CF_share | apply lk_CF_is_ready | apply lk_CF_spent | (apply lk_LF_no; decide +kernel; decide +kernel; decide +kernel; decide +kernel))
local macro_rules | `(tactic| fail "at") => `(tactic| with_reducible first | assumption | apply mc_0 | apply mc_1 | apply mc_2 | apply mc_3 | apply mc_4 | apply at_0 | apply at_1 | apply at_2 | apply at_3 | apply at_4 | (apply atI_nat; assumption) | (apply at_z; assumption))
local macro_rules | `(tactic| fail "go") => `(tactic| repeat (first
  | apply rd_step
  | with_reducible (first
    | (apply r_kFld; fail "hp"; fail "tx"; fail "tx"; fail "lk")
    | (apply r_ixL; fail "sl"; fail "at") | (apply r_ixT; fail "st"; fail "at")
    | (apply r_kMeth; fail "hp"; fail "lk") | (apply r_kBML; fail "sl")
    | (apply r_lenL; fail "sl") | (apply r_lenT; fail "st") | (apply r_lenD; fail "hp")
    | (apply r_kDGetI; fail "hp"; (first | assumption | rfl)) | (apply r_kDGetS; fail "hp"; (first | assumption | apply mv_rules | apply mv_rows | apply mv_cards | apply mv_now)) | (apply r_kDInI; fail "hp") | (apply r_kDNotInI; fail "hp")
    | (apply r_kAugF; fail "hp"; fail "tx"; fail "tx"; fail "lk")
    | (apply r_isi_tuple_tuple; fail "st") | (apply r_isi_list_tuple; fail "sl") | (apply r_isi_list_list; fail "sl") | (apply r_isi_tuple_list; fail "st")
    | (apply r_kUnT; fail "st"; with_unfolding_all rfl) | (apply r_kIL; fail "sl") | (apply r_kIT; fail "st") | (apply r_kIE; fail "st") )))
local macro_rules | `(tactic| fail "eg") => `(tactic| repeat (first
  | apply stp
  | (refine e_rul0 (fun _ => ?_))

  | (refine e_tup0 (fun _ => ?_)) ))
local macro_rules | `(tactic| fail "egs") => `(tactic| (try (with_reducible refine e_seq ?_)) <;> repeat (first
  | apply stp
  | (with_reducible refine e_seq ?_)
  | (refine e_rul0 (fun _ => ?_))

  | (refine e_tup0 (fun _ => ?_)) ))
def dki (ps : List (Int × Int)) : List (Key × V) := ps.map fun p => ((Sum.inl p.1 : Key), V.int p.2)
section
variable {ps : List (Int × Int)} {t z i : Int} {v : V}
theorem dki_dkv : dki ps = dkv (ps.map Prod.fst) (ps.map fun p => V.int p.2) := by
  induction ps with
  | nil => rfl
  | cons p r ih => show (_ :: dki r) = _ :: dkv _ _; rw [ih]
theorem dki_len : (dki ps).length = ps.length := by unfold dki; rw [List.length_map]
theorem dki_val (nd : (ps.map Prod.fst).Nodup) (h : (t, z) ∈ ps) : valV (dki ps) (.inl t) = some (.int z) := by
  obtain ⟨i, hi, e⟩ := List.mem_iff_getElem.mp h
  rw [dki_dkv]
  refine dkv_at (i := i) nd ?_ ?_
  · rw [List.getElem?_map, List.getElem?_eq_getElem hi, e]; rfl
  · rw [List.getElem?_map, List.getElem?_eq_getElem hi, e]; rfl
theorem dki_none (h : t ∉ ps.map Prod.fst) : valV (dki ps) (.inl t) = none := by rw [dki_dkv]; exact dkv_none h
theorem dki_drop : dropK (dki ps) (.inl t) = dki (popI ps t) := by
  induction ps with
  | nil => rfl
  | cons p r ih =>
    unfold dki popI dropK at ih ⊢
    rw [List.map_cons, List.filter_cons, List.filter_cons]
    by_cases e : p.1 = t
    · simp only [e]; simpa using ih
    · have e2 : ¬ (Sum.inl p.1 : Key) = Sum.inl t := fun z => e (Sum.inl.inj z)
      simp only [e, e2, ne_eq, not_false_eq_true, decide_true, if_true, List.map_cons]
      rw [ih]
theorem popI_none (h : t ∉ ps.map Prod.fst) : popI ps t = ps := List.filter_eq_self.mpr fun p hp => by
  have : ¬ p.1 = t := fun e => h (by rw [← e]; exact List.mem_map.mpr ⟨p, hp, rfl⟩)
  simpa using this
theorem dki_put (h : t ∉ ps.map Prod.fst) : putK (dki ps) (.inl t) (.int z) = dki (ps ++ [(t, z)]) := by
  rw [putK_new _ (dki_none h)]
  unfold dki
  rw [List.map_append]; rfl
end
/-! pop, setdefault -/
def kPopE (x y : V) (H : Hp) (Q : VK) : Prop := ∃ a kvs k v, x = .ref a ∧ H a = some (.dK kvs) ∧ y = kV k ∧ valV kvs k = some v ∧ Q v (upd H a (.dK (dropK kvs k)))
def kPopD (x y z : V) (H : Hp) (Q : VK) : Prop := ∃ a kvs k, x = .ref a ∧ H a = some (.dK kvs) ∧ y = kV k ∧ (∀ v, valV kvs k = some v → Q v (upd H a (.dK (dropK kvs k)))) ∧ (valV kvs k = none → Q z H)
def kSetE (x y z : V) (H : Hp) (Q : VK) : Prop := ∃ a kvs k, x = .ref a ∧ H a = some (.dK kvs) ∧ y = kV k ∧ kvs.length < sizeLine ∧ (∀ v, valV kvs k = some v → Q v H) ∧ (valV kvs k = none → Q z (upd H a (.dK (putK kvs k z))))
def kPop2 (ty tx : TE) (σ : St) (x : V) (H : Hp) (Q : VK) : Prop := ∃ a, x = .ref a ∧ IsD H a ∧ ty σ H fun y H2 => tx σ H2 fun z H3 => ∃ kvs k, H3 a = some (.dK kvs) ∧ y = kV k ∧
  (∀ v, valV kvs k = some v → Q v (upd H3 a (.dK (dropK kvs k)))) ∧ (valV kvs k = none → Q z H3)
def kSetd (ty tx : TE) (σ : St) (x : V) (H : Hp) (Q : VK) : Prop := ∃ a, x = .ref a ∧ IsD H a ∧ ty σ H fun y H2 => tx σ H2 fun z H3 => ∃ (kvs : List (Key × V)) (k : Key), H3 a = some (.dK kvs) ∧ y = kV k ∧ kvs.length < sizeLine ∧
  (∀ v, valV kvs k = some v → Q v H3) ∧ (valV kvs k = none → Q z (upd H3 a (.dK (putK kvs k z))))
instance rd_pop2 {td ty tx : TE} {σ : St} {H : Hp} {Q : VK} : Qn.Rd (tDPop2 td ty tx σ H Q) (td σ H fun x H1 => kPop2 ty tx σ x H1 Q) := ⟨id⟩
instance rd_setd {td ty tx : TE} {σ : St} {H : Hp} {Q : VK} : Qn.Rd (tDSetd td ty tx σ H Q) (td σ H fun x H1 => kSetd ty tx σ x H1 Q) := ⟨id⟩
section
variable {P P' F G : List As} {σ : St} {Q : VK} {a p q d : Addr} {kvs : List (Key × V)} {ty tx : TE} {ps : List (Int × Int)} {t z : Int} {y : V}
theorem e_popA {X : VK} [s : Sees P d (.dK kvs)] (hX : ∀ y H2 , kPopE (.ref d) y H2 Q → X y H2) (k : Ent P (fun H => ty σ H X)) (e : X = fun y H2 => kPopE (.ref d) y H2 Q) : Ent P (fun H => kPop1 ty σ (.ref d) H Q) := fun H h => by
  subst e
  refine ⟨d, rfl, .inl ⟨kvs, .inl (s.sees H h)⟩, ?_⟩
  have e2 : (fun y H2 => ∃ kvs k v, H2 d = some (.dK kvs) ∧ y = kV k ∧ valV kvs k = some v ∧ Q v (upd H2 d (.dK (dropK kvs k)))) = fun y H2 => kPopE (.ref d) y H2 Q := by
    funext y H2
    exact propext ⟨fun ⟨kvs, k, v, e1, e2, e3, e4⟩ => ⟨d, kvs, k, v, rfl, e1, e2, e3, e4⟩, fun ⟨_, kvs, k, v, e, e1, e2, e3, e4⟩ => by cases e; exact ⟨kvs, k, v, e1, e2, e3, e4⟩⟩
  rw [e2]
  exact k H h
instance sp_pop1 [s : Sees P d (.dK kvs)] : Stp P (fun H => kPop1 ty σ (.ref d) H Q) P (fun H => ty σ H fun y H2 => kPopE (.ref d) y H2 Q) := ⟨fun k => e_popA (fun _ _ h => h) k rfl⟩
instance sp_pop2 [s : Sees P d (.dK kvs)] : Stp P (fun H => kPop2 ty tx σ (.ref d) H Q) P (fun H => ty σ H fun y H2 => tx σ H2 fun z H3 => kPopD (.ref d) y z H3 Q) := ⟨fun k H h => by
  refine ⟨d, rfl, .inl ⟨kvs, .inl (s.sees H h)⟩, ?_⟩
  have e2 : ∀ y z H3, (∃ kvs k, H3 d = some (.dK kvs) ∧ y = kV k ∧ (∀ v, valV kvs k = some v → Q v (upd H3 d (.dK (dropK kvs k)))) ∧ (valV kvs k = none → Q z H3)) = kPopD (.ref d) y z H3 Q := fun y z H3 =>
    propext ⟨fun ⟨kvs, k, e1, e2, e3, e4⟩ => ⟨d, kvs, k, rfl, e1, e2, e3, e4⟩, fun ⟨_, kvs, k, e, e1, e2, e3, e4⟩ => by cases e; exact ⟨kvs, k, e1, e2, e3, e4⟩⟩
  simp only [e2]
  exact k H h⟩
instance sp_setd [s : Sees P d (.dK kvs)] : Stp P (fun H => kSetd ty tx σ (.ref d) H Q) P (fun H => ty σ H fun y H2 => tx σ H2 fun z H3 => kSetE (.ref d) y z H3 Q) := ⟨fun k H h => by
  refine ⟨d, rfl, .inl ⟨kvs, .inl (s.sees H h)⟩, ?_⟩
  have e2 : ∀ y z H3, (∃ (kvs : List (Key × V)) (k : Key), H3 d = some (.dK kvs) ∧ y = kV k ∧ kvs.length < sizeLine ∧ (∀ v, valV kvs k = some v → Q v H3) ∧ (valV kvs k = none → Q z (upd H3 d (.dK (putK kvs k z))))) = kSetE (.ref d) y z H3 Q := fun y z H3 =>
    propext ⟨fun ⟨kvs, k, e1, e2, e3, e4⟩ => ⟨d, kvs, k, rfl, e1, e2, e3, e4⟩, fun ⟨_, kvs, k, e, e1, e2, e3, e4⟩ => by cases e; exact ⟨kvs, k, e1, e2, e3, e4⟩⟩
  simp only [e2]
  exact k H h⟩
/-- a dict of numbers -/
theorem e_popE [tk : Take P (.ref d) (DctX (dki ps)) F] (nd : (ps.map Prod.fst).Nodup) (h : (t, z) ∈ ps) (k : Ent (At (.ref d) (DctX (dki (popI ps t))) :: F) (fun H => Q (.int z) H)) : Ent P (fun H => kPopE (.ref d) (.int t) H Q) := fun H s => by
  have s' := s.imp tk.tk
  refine ⟨d, dki ps, .inl t, .int z, rfl, Sat.sees (F := F) s', rfl, dki_val nd h, ?_⟩
  rw [dki_drop]
  exact k _ (s'.set _ fun _ e => by cases e)
theorem e_popD [tk : Take P (.ref d) (DctX (dki ps)) F] (k : ∀ v, Ent (At (.ref d) (DctX (dki (popI ps t))) :: F) (fun H => Q v H)) : Ent P (fun H => kPopD (.ref d) (.int t) y H Q) := fun H s => by
  have s' := s.imp tk.tk
  refine ⟨d, dki ps, .inl t, rfl, Sat.sees (F := F) s', rfl, fun v _ => ?_, fun e => ?_⟩
  · rw [dki_drop]
    exact k v _ (s'.set _ fun _ e => by cases e)
  · have hn : t ∉ ps.map Prod.fst := fun z => by
      rw [dki_dkv] at e
      obtain ⟨i, hi, e1⟩ := List.mem_iff_getElem.mp z
      rw [List.length_map] at hi
      have := valV_any (Sum.inl t) (dkv (ps.map Prod.fst) (ps.map fun p => V.int p.2))
      rw [e, ← dki_dkv] at this
      have h2 : ((dki ps).any fun kv => decide (kv.1 = Sum.inl t)) = true := by
        rw [List.any_eq_true]
        refine ⟨_, List.mem_map.mpr ⟨ps[i], List.getElem_mem hi, rfl⟩, ?_⟩
        rw [List.getElem_map] at e1
        simp [e1]
      rw [h2] at this
      cases this
    have h2 := k y
    rw [popI_none hn] at h2
    exact h2 H s'
theorem e_setE [tk : Take P (.ref d) (DctX (dki ps)) F] (hl : ps.length < 1000) (k : ∀ v, Ent (At (.ref d) (DctX (dki (putI ps t z))) :: F) (fun H => Q v H)) : Ent P (fun H => kSetE (.ref d) (.int t) (.int z) H Q) := fun H s => by
  have s' := s.imp tk.tk
  refine ⟨d, dki ps, .inl t, rfl, Sat.sees (F := F) s', rfl, Nat.lt_of_lt_of_le (by rw [dki_len]; exact hl) (by decide), fun v e => ?_, fun e => ?_⟩
  · have hn : t ∈ ps.map Prod.fst := Classical.byContradiction fun z => by rw [dki_none z] at e; cases e
    have h2 := k v
    unfold putI at h2
    rw [if_pos hn] at h2
    exact h2 H s'
  · have hn : t ∉ ps.map Prod.fst := fun z => by
      have := valV_any (Sum.inl t) (dki ps)
      rw [e] at this
      obtain ⟨p, hp, e1⟩ := List.mem_map.mp z
      have h2 : ((dki ps).any fun kv => decide (kv.1 = Sum.inl t)) = true := by
        rw [List.any_eq_true]
        exact ⟨_, List.mem_map.mpr ⟨p, hp, rfl⟩, by simp [e1]⟩
      rw [h2] at this
      cases this
    have h2 := k (.int z)
    unfold putI at h2
    rw [if_neg hn] at h2
    rw [dki_put hn]
    exact h2 _ (s'.set _ fun _ e => by cases e)
/-- a list told of the keys, whatever is made for each -/
theorem e_lcKI {te : TE} {tt : TT} {g : TG} {d : Addr} {od : Obj} {own : List (Str × Nat)} {σ0 : St} {ts : List Int} {vs : List V} [hw : Wip σ own σ0] (hl : ts.length = vs.length) (I : Nat → List V → List As → Prop) (h0 : I 0 [] P) (hG : ∀ i acc P, I i acc P → ∀ H, Sat P H → H d = some (.frz od (.dK (dkv ts vs))))
    (hs : ∀ D i t acc P, ts[i]? = some t → I i acc P → Ent (At (.ref D) (LstX acc) :: P) (fun H => g (.int t) σ0 H fun σ2 H2 => wipe σ2 (own.map (·.2)) = σ0 ∧ tt σ2 H2 fun b H3 => kIf b (te σ2 H3 (puC D (I (i + 1)))) (nxC D (I (i + 1)) H3)))
    (hd : ∀ D acc P, I ts.length acc P → Ent (At (.ref D) (LstX acc) :: P) (fun H => Q (.ref D) H)) : Ent P (fun H => kLc (Itk d od (dkv ts vs)) g tt te (own.map (·.2)) σ Q H) := by
  refine e_lc (walk_keys (d := d) (o := od) (kvs := dkv ts vs)) hw.eq I h0 (fun i acc P' _ q H h => hG i acc P' q H h) (fun D i acc P' hi q x H H' sS y => ?_) fun D acc P' q => ?_
  · obtain ⟨rfl, k, v, e, rfl⟩ := y
    obtain ⟨t, v', e1, e2, e3⟩ := dkv_key e
    cases e3
    exact hs D i t acc P' e1 q _ sS
  · rw [dkv_len hl] at q
    exact hd D acc P' q
end
end Qn

/-! S8: a statement, then others: a step of its own. -/
namespace Qn
open PySem L2
/-- a block that is not yet begun -/
def Sq (X : St → Hp → Prop) (σ : St) (H : Hp) : Prop := X σ H
theorem e_seq {P : List As} {t1 t2 : TS} {D : Ends} {σ : St} (e : Ent P (fun H => t1 { D with nx := t2 D } σ H)) : Ent P (fun H => Sq (tSeq t1 t2 D) σ H) := e
theorem e_cutS {P : List As} {t1 t2 : TS} {D : Ends} {σ : St} (I : St → List As → Prop) (h2 : ∀ σ P, I σ P → Ent P (fun H => t2 D σ H))
    (h1 : ∀ N : St → Hp → Prop, (∀ σ P, I σ P → Ent P (fun H => N σ H)) → Ent P (fun H => t1 { D with nx := N } σ H)) : Ent P (fun H => Sq (tSeq t1 t2 D) σ H) := h1 (t2 D) h2
theorem stop_seq {P : List As} {t1 t2 : TS} {D : Ends} {σ : St} : Stp P (fun H => tSeq t1 t2 D σ H) P (fun H => Sq (tSeq t1 t2 D) σ H) := ⟨id⟩
/-- an empty tuple, not yet made -/
def Tq (X : Hp → VK → Prop) (H : Hp) (Q : VK) : Prop := X H Q
theorem stop_tup0 {P : List As} {σ : St} {Q : VK} : Stp P (fun H => tTup0 σ H Q) P (fun H => Tq (tTup0 σ) H Q) := ⟨id⟩
theorem e_tupQ {P : List As} {σ : St} {Q : VK} (k : ∀ p, Ent (At (.ref p) (KTup (([] : List Int).map V.int)) :: P) (fun H => Q (.ref p) H)) : Ent P (fun H => Tq (tTup0 σ) H Q) := fun H s p np => k p _ (s.newK np ⟨p, rfl, upd_same⟩)
end Qn

namespace Qn
open PySem L2
local macro_rules | `(tactic| fail "ne") => `(tactic| first | assumption | (apply Ne.symm; assumption) | (apply ne_of_none; assumption; assumption) | (apply Ne.symm; apply ne_of_none; assumption; assumption) | (apply ne_of; assumption; assumption; (intro z; cases z)))
local macro_rules | `(tactic| fail "hp") => `(tactic| with_reducible first | assumption | apply upd_same | (apply upd_old; rotate_left; assumption; fail "hp") | (apply upd_oth; rotate_left; fail "ne"; fail "hp"))
local macro_rules | `(tactic| fail "sl") => `(tactic| with_reducible first | assumption | (apply SqL.of; fail "hp"))
local macro_rules | `(tactic| fail "st") => `(tactic| with_reducible first | assumption | (apply SqT.of; fail "hp"))
local macro_rules | `(tactic| fail "tx") => `(tactic| with_reducible first | assumption | (apply Txt.c_Card; assumption) | (apply Txt.n_Card_line; assumption) | (apply Txt.n_Card_quantum; assumption) | (apply Txt.n_Card_share; assumption) | (apply Txt.n_Card_is_ready; assumption) | (apply Txt.n_Card_spent; assumption) | (apply Txt.c_Lines; assumption) | (apply Txt.n_Lines_rules; assumption) | (apply Txt.n_Lines_cards; assumption) | (apply Txt.n_Lines_rows; assumption) | (apply Txt.n_Lines_time; assumption))
local macro_rules | `(tactic| fail "lk") => `(tactic| with_reducible first | assumption | apply lk_LF_rules | apply lk_LF_cards | apply lk_LF_rows | apply lk_LF_time | apply lk_CF_line | apply lk_CF_quantum | apply lk_CF_share | apply lk_CF_is_ready | apply lk_CF_spent | (apply lk_LF_no; decide +kernel; decide +kernel; decide +kernel; decide +kernel))
local macro_rules | `(tactic| fail "at") => `(tactic| with_reducible first | assumption | apply mc_0 | apply mc_1 | apply mc_2 | apply mc_3 | apply mc_4 | apply at_0 | apply at_1 | apply at_2 | apply at_3 | apply at_4 | (apply atI_nat; assumption) | (apply at_z; assumption))
local macro_rules | `(tactic| fail "go") => `(tactic| repeat (first
  | apply rd_step
  | with_reducible (first
    | (apply r_kFld; fail "hp"; fail "tx"; fail "tx"; fail "lk")
    | (apply r_ixL; fail "sl"; fail "at") | (apply r_ixT; fail "st"; fail "at")
    | (apply r_kMeth; fail "hp"; fail "lk") | (apply r_kBML; fail "sl")
    | (apply r_lenL; fail "sl") | (apply r_lenT; fail "st") | (apply r_lenD; fail "hp")
    | (apply r_kDGetI; fail "hp"; (first | assumption | rfl)) | (apply r_kDGetS; fail "hp"; (first | assumption | apply mv_rules | apply mv_rows | apply mv_cards | apply mv_now)) | (apply r_kDInI; fail "hp") | (apply r_kDNotInI; fail "hp")
    | (apply r_kAugF; fail "hp"; fail "tx"; fail "tx"; fail "lk")
    | (apply r_isi_tuple_tuple; fail "st") | (apply r_isi_list_tuple; fail "sl") | (apply r_isi_list_list; fail "sl") | (apply r_isi_tuple_list; fail "st")
    | (apply r_kUnT; fail "st"; with_unfolding_all rfl) | (apply r_kIL; fail "sl") | (apply r_kIT; fail "st") | (apply r_kIE; fail "st") )))
local macro_rules | `(tactic| fail "eg") => `(tactic| repeat (first
  | apply stp
  | (refine e_rul0 (fun _ => ?_))

  | (refine e_tup0 (fun _ => ?_)) ))
local macro_rules | `(tactic| fail "egs") => `(tactic| (try (with_reducible refine e_seq ?_)) <;> repeat (first
  | apply stp
  | (with_reducible refine e_seq ?_)
  | (refine e_rul0 (fun _ => ?_))

  | (refine e_tup0 (fun _ => ?_)) ))
section
variable {P : Program} {w : World} {K : PySem.W.Frag} {mg : Str → Option Value} {base : Heap} {a : Adr}
instance rd_isNi {i : Int} {H : Hp} {Q : VK} : Qn.Rd (rIsN (.int i) .non H Q) (Q (.bl false) H) := ⟨fun k => r_isN k⟩
instance rd_isNb {i : Bool} {H : Hp} {Q : VK} : Qn.Rd (rIsN (.bl i) .non H Q) (Q (.bl false) H) := ⟨fun k => r_isN k⟩
instance rd_isNs {i : Str} {H : Hp} {Q : VK} : Qn.Rd (rIsN (.str i) .non H Q) (Q (.bl false) H) := ⟨fun k => r_isN k⟩
instance rd_isNr {i : Addr} {H : Hp} {Q : VK} : Qn.Rd (rIsN (.ref i) .non H Q) (Q (.bl false) H) := ⟨fun k => r_isN k⟩
instance rd_isNn {H : Hp} {Q : VK} : Qn.Rd (rIsN .non .non H Q) (Q (.bl true) H) := ⟨fun k => r_isN k⟩
/-- small data of a depth -/
def Dt : Nat → PyData → Prop
  | _, .none => True
  | _, .bool _ => True
  | _, .int _ => True
  | _, .str s => PyData.strOk s = true
  | n + 1, .list ds => ds.length ≤ 1000 ∧ ∀ d ∈ ds, Dt n d
  | n + 1, .tuple ds => ds.length ≤ 1000 ∧ ∀ d ∈ ds, Dt n d
  | _, _ => False
instance rd_neB {x y : Bool} {H : Hp} {Q : VK} : Qn.Rd (rNe (.bl x) (.bl y) H Q) (Q (.bl (!decide (x = y))) H) := ⟨fun k => ⟨rfl, by
  have e : decide (V.bl x = V.bl y) = decide (x = y) := by simp
  rw [e]; exact k⟩⟩
/-- data alike: the very same -/
def spA (K : PySem.W.Frag) (n : Nat) : Sp := sp2 fun x y H Q _ => ∃ m d, n = m + 1 ∧ Dt m d ∧ Dp K H x d ∧ Dp K H y d ∧ Q (.bl true) H
theorem dpAll_get {H : Hp} : ∀ {xs : List V} {ds : List PyData}, DpAll K H xs ds → xs.length = ds.length ∧ ∀ (i : Nat) (d : PyData), ds[i]? = some d → ∃ x, xs[i]? = some x ∧ Dp K H x d
  | _, _, .nil => ⟨rfl, fun i d e => by cases e⟩
  | _, _, .cons (v := v) (d := d0) h r => by
    obtain ⟨h1, h2⟩ := dpAll_get r
    refine ⟨by simp [h1], fun i d e => ?_⟩
    cases i with
    | zero => cases e; exact ⟨v, rfl, h⟩
    | succ i => exact h2 i d e
theorem ok_alike (T : Txt K mg a) : ∀ n, Cal P w K mg base CX0 (n + 1) "_law_alike" ["_law_found", "_law_due"] (spA K n) := by
  intro n
  obtain ⟨fd, F, b⟩ := T.f_law_alike
  induction n with
  | zero => exact ⟨a.law_alike, fd, F.ok sc_law_alike (fun vs H Q E h => sp2_len h) (fun cdv A outer s H vs Q E hr h => by obtain ⟨_, _, _, m, d, e, _⟩ := h; cases e), T.g_law_alike, F.kp, b⟩
  | succ n ih =>
    refine ⟨a.law_alike, fd, F.ok sc_law_alike (fun vs H Q E h => sp2_len h) (fun cdv A outer s H vs Q E hr h => ?_), T.g_law_alike, F.kp, b⟩
    refine ⟨_, (pss_cons (ps_if (pt_cmpR op_isN1 (pv 1) pe_non (nomark _))
 (pss_one (ps_ret (pe_cmpR op_isN1 (pv 0) pe_non (nomark _))))
 pss_nil)
 (pss_cons (ps_if (pt_val (pe_callB call_isi (by rfl) T.z_isinstance (by decide +kernel) (pa_cons (pv 1) (pa_cons (q_bty (T := "bool") (by rfl) T.z_bool (by decide +kernel)) pa_nil))))
 (pss_one (ps_ret (pe_and (pe_callB call_isi (by rfl) T.z_isinstance (by decide +kernel) (pa_cons (pv 0) (pa_cons (q_bty (T := "bool") (by rfl) T.z_bool (by decide +kernel)) pa_nil))) (pe_one (pe_cmpR (op_eqD (by exact hr.units)) (pv 0) (pv 1) (nomark _))))))
 pss_nil)
 (pss_cons (ps_if (pt_val (pe_callB call_isi (by rfl) T.z_isinstance (by decide +kernel) (pa_cons (pv 1) (pa_cons (q_bty (T := "int") (by rfl) T.z_int (by decide +kernel)) pa_nil))))
 (pss_one (ps_ret (pe_and (pe_callB call_isi (by rfl) T.z_isinstance (by decide +kernel) (pa_cons (pv 0) (pa_cons (q_bty (T := "int") (by rfl) T.z_int (by decide +kernel)) pa_nil))) (pe_and (pe_not (pe_callB call_isi (by rfl) T.z_isinstance (by decide +kernel) (pa_cons (pv 0) (pa_cons (q_bty (T := "bool") (by rfl) T.z_bool (by decide +kernel)) pa_nil)))) (pe_one (pe_cmpR (op_eqD (by exact hr.units)) (pv 0) (pv 1) (nomark _)))))))
 pss_nil)
 (pss_cons (ps_if (pt_val (pe_callB call_isi (by rfl) T.z_isinstance (by decide +kernel) (pa_cons (pv 1) (pa_cons (q_bty (T := "str") (by rfl) T.z_str (by decide +kernel)) pa_nil))))
 (pss_one (ps_ret (pe_and (pe_callB call_isi (by rfl) T.z_isinstance (by decide +kernel) (pa_cons (pv 0) (pa_cons (q_bty (T := "str") (by rfl) T.z_str (by decide +kernel)) pa_nil))) (pe_one (pe_cmpR (op_eqD (by exact hr.units)) (pv 0) (pv 1) (nomark _))))))
 pss_nil)
 (pss_cons (ps_if (PW.pt (pw_or (pt_cmpR op_ne (pe_callB call_isi (by rfl) T.z_isinstance (by decide +kernel) (pa_cons (pv 1) (pa_cons (q_bty (T := "tuple") (by rfl) T.z_tuple (by decide +kernel)) pa_nil))) (pe_callB call_isi (by rfl) T.z_isinstance (by decide +kernel) (pa_cons (pv 0) (pa_cons (q_bty (T := "tuple") (by rfl) T.z_tuple (by decide +kernel)) pa_nil))) (nomark _)) (pw_or1 (pt_cmpR op_ne (pe_callB call_isi (by rfl) T.z_isinstance (by decide +kernel) (pa_cons (pv 1) (pa_cons (q_bty (T := "list") (by rfl) T.z_list (by decide +kernel)) pa_nil))) (pe_callB call_isi (by rfl) T.z_isinstance (by decide +kernel) (pa_cons (pv 0) (pa_cons (q_bty (T := "list") (by rfl) T.z_list (by decide +kernel)) pa_nil))) (nomark _)))))
 (pss_one (ps_ret pe_bl))
 pss_nil)
 (pss_cons (ps_if (pt_cmpR op_ne (pe_callB qr_len (by rfl) T.z_len (by decide +kernel) (pa_cons (pv 0) pa_nil)) (pe_callB qr_len (by rfl) T.z_len (by decide +kernel) (pa_cons (pv 1) pa_nil)) (nomark _))
 (pss_one (ps_ret pe_bl))
 pss_nil)
 (pss_cons (ps_for PassesOwn.never rfl (pi_range1 rfl T.z_range (pa_cons (pe_callB qr_len (by rfl) T.z_len (by decide +kernel) (pa_cons (pv 1) pa_nil)) pa_nil)) (pg_name (i := 2) sc_law_alike.nd rfl (Or.inl rfl))
 (pss_one (ps_if (pt_not (pt_val (q_call ih (hr.mono (by omega)) pass0 (pa_cons (pe_ix ix_seq (pv 0) (pv 2) (fun _ _ => rfl)) (pa_cons (pe_ix ix_seq (pv 1) (pv 2) (fun _ _ => rfl)) pa_nil)))))
 (pss_one (ps_ret pe_bl))
 pss_nil)))
 (pss_one (ps_ret pe_bl))))))))), ?_⟩
    try dsimp only [cxOf, Cx.nox, Cx.wish]
    obtain ⟨x, y, rfl, h⟩ := h
    rw [show L2.start N_law_alike [x, y] = [some x, some y, none] from rfl]
    obtain ⟨m, d, hm, sh, dx, dy, k⟩ := h
    cases hm
    cases d with
    | none =>
      cases dx; cases dy
      fail "go"
      exact k
    | bool b =>
      cases dx; cases dy
      fail "go"
      refine r_eqD (.bl b) (.bl b) (sh_bool (n := 0).ok (by decide)) (sh_bool (n := 0).ok (by decide)) ?_
      rw [show PyData.eqv (.bool b) (.bool b) = true by simp [PyData.eqv]]
      exact k
    | int b =>
      cases dx; cases dy
      fail "go"
      refine r_eqD (.int b) (.int b) (sh_int (n := 0).ok (by decide)) (sh_int (n := 0).ok (by decide)) ?_
      rw [show PyData.eqv (.int b) (.int b) = true by simp [PyData.eqv]]
      exact k
    | str b =>
      cases dx; cases dy
      have hs : Sh 0 (.str b) := ⟨by
        have h0 : PyData.strOk b = true := by cases n <;> exact sh
        simpa [PyData.canLay0] using h0, by simp [PyData.depth]⟩
      fail "go"
      refine r_eqD (.str b) (.str b) (hs.ok (by decide)) (hs.ok (by decide)) ?_
      rw [show PyData.eqv (.str b) (.str b) = true by simp [PyData.eqv]]
      exact k
    | list ds =>
      cases n with
      | zero => exact sh.elim
      | succ n =>
      obtain ⟨hz, hsub⟩ := sh
      cases dx with
      | lst hx ax =>
      rename_i px xs
      cases dy with
      | lst hy ay =>
      rename_i py ys
      obtain ⟨lx, gx⟩ := dpAll_get ax
      obtain ⟨ly, gy⟩ := dpAll_get ay
      fail "go"
      refine r_isi_list_bool hy ?_
      fail "go"
      refine r_isi_list_int hy ?_
      fail "go"
      refine r_isi_list_str hy ?_
      fail "go"
      refine r_kF rfl ?_
      fail "go"
      refine r_kF rfl ?_
      fail "go"
      rw [lx, ly]
      refine r_kF (by simp) ?_
      fail "go"
      refine r_kIR1 (by omega) ?_
      refine w_for (n := ds.length) (by have := walk_r0 (n := ds.length); rw [show ((ys.length : Nat) : Int).toNat = ds.length by omega]; exact this) (fun i σ H' => H' = H ∧ ∃ v, σ = [some (.ref px), some (.ref py), v]) ⟨rfl, none, rfl⟩ (fun _ _ _ _ _ => trivial) ?_ ?_
      · rintro i v σ H1 H2 hi ⟨rfl, v2, rfl⟩ ⟨rfl, rfl⟩
        obtain ⟨x1, ex, d1⟩ := gx i _ (List.getElem?_eq_getElem hi)
        obtain ⟨y1, ey, d2⟩ := gy i _ (List.getElem?_eq_getElem hi)
        fail "go"
        refine .inl ⟨px, xs, i, x1, rfl, rfl, hx, atI_nat ex, ?_⟩
        fail "go"
        refine .inl ⟨py, ys, i, y1, rfl, rfl, hy, atI_nat ey, ?_⟩
        fail "go"
        refine sp2_mk ?_
        refine ⟨n, ds[i], rfl, hsub _ (List.getElem_mem hi), d1, d2, ?_⟩
        fail "go"
        exact ⟨rfl, _, rfl⟩
      · rintro σ H1 ⟨rfl, v2, rfl⟩
        fail "go"
        exact k
    | tuple ds =>
      cases n with
      | zero => exact sh.elim
      | succ n =>
      obtain ⟨hz, hsub⟩ := sh
      cases dx with
      | tup hx ax =>
      rename_i px xs
      cases dy with
      | tup hy ay =>
      rename_i py ys
      obtain ⟨lx, gx⟩ := dpAll_get ax
      obtain ⟨ly, gy⟩ := dpAll_get ay
      fail "go"
      refine r_isi_tuple_bool hy ?_
      fail "go"
      refine r_isi_tuple_int hy ?_
      fail "go"
      refine r_isi_tuple_str hy ?_
      fail "go"
      refine r_kF rfl ?_
      fail "go"
      refine r_kF rfl ?_
      fail "go"
      rw [lx, ly]
      refine r_kF (by simp) ?_
      fail "go"
      refine r_kIR1 (by omega) ?_
      refine w_for (n := ds.length) (by have := walk_r0 (n := ds.length); rw [show ((ys.length : Nat) : Int).toNat = ds.length by omega]; exact this) (fun i σ H' => H' = H ∧ ∃ v, σ = [some (.ref px), some (.ref py), v]) ⟨rfl, none, rfl⟩ (fun _ _ _ _ _ => trivial) ?_ ?_
      · rintro i v σ H1 H2 hi ⟨rfl, v2, rfl⟩ ⟨rfl, rfl⟩
        obtain ⟨x1, ex, d1⟩ := gx i _ (List.getElem?_eq_getElem hi)
        obtain ⟨y1, ey, d2⟩ := gy i _ (List.getElem?_eq_getElem hi)
        fail "go"
        refine .inr <| .inl ⟨px, xs, i, x1, rfl, rfl, hx, atI_nat ex, ?_⟩
        fail "go"
        refine .inr <| .inl ⟨py, ys, i, y1, rfl, rfl, hy, atI_nat ey, ?_⟩
        fail "go"
        refine sp2_mk ?_
        refine ⟨n, ds[i], rfl, hsub _ (List.getElem_mem hi), d1, d2, ?_⟩
        fail "go"
        exact ⟨rfl, _, rfl⟩
      · rintro σ H1 ⟨rfl, v2, rfl⟩
        fail "go"
        exact k
    | _ => cases dx
end
end Qn

/-! XAL: alike, by parts (where no runs are). -/
namespace Qn
open PySem L2
section
variable {P : Program} {w : World} {K : PySem.W.Frag} {mg : Str → Option Value} {base : Heap} {a : Adr}
--ALIKE{
def sp_law_alike (K : PySem.W.Frag) (a : Adr) : Sp := spA K 9
theorem ok_law_alike (T : Txt K mg a) : Cal P w K mg base CX0 10 "_law_alike" ["_law_found", "_law_due"] (sp_law_alike K a) := ok_alike T 9
theorem e_alike {Pl : List As} {x y : V} {Q : VK} {E : XK} (d : PyData) [h1 : HasD K Pl x d] [h2 : HasD K Pl y d] (h : Dt 8 d) (k : Ent Pl (fun H => Q (.bl true) H)) : Ent Pl (fun H => sp_law_alike K a [x, y] H Q E) := fun H s => ⟨x, y, rfl, 8, d, rfl, h, h1.has H s, h2.has H s, k H s⟩
--ALIKE}
end
end Qn

/-! XT: what is told of works; all of them alike. -/
namespace Qn
open PySem PySem.Spec PySem.Calls PyProof.Rows L2
local macro_rules | `(tactic| fail "ne") => `(tactic| first | assumption | (apply Ne.symm; assumption) | (apply ne_of_none; assumption; assumption) | (apply Ne.symm; apply ne_of_none; assumption; assumption) | (apply ne_of; assumption; assumption; (intro z; cases z)))
local macro_rules | `(tactic| fail "hp") => `(tactic| with_reducible first | assumption | apply upd_same | (apply upd_old; rotate_left; assumption; fail "hp") | (apply upd_oth; rotate_left; fail "ne"; fail "hp"))
local macro_rules | `(tactic| fail "sl") => `(tactic| with_reducible first | assumption | (apply SqL.of; fail "hp"))
local macro_rules | `(tactic| fail "st") => `(tactic| with_reducible first | assumption | (apply SqT.of; fail "hp"))
local macro_rules | `(tactic| fail "tx") => `(tactic| with_reducible first | assumption | (apply Txt.c_Card; assumption) | (apply Txt.n_Card_line; assumption) | (apply Txt.n_Card_quantum; assumption) | (apply Txt.n_Card_share; assumption) | (apply Txt.n_Card_is_ready; assumption) | (apply Txt.n_Card_spent; assumption) | (apply Txt.c_Lines; assumption) | (apply Txt.n_Lines_rules; assumption) | (apply Txt.n_Lines_cards; assumption) | (apply Txt.n_Lines_rows; assumption) | (apply Txt.n_Lines_time; assumption))
local macro_rules | `(tactic| fail "lk") => `(tactic| with_reducible first | assumption | apply lk_LF_rules | apply lk_LF_cards | apply lk_LF_rows | apply lk_LF_time | apply lk_CF_line | apply lk_CF_quantum | apply lk_CF_share | apply lk_CF_is_ready | apply lk_CF_spent | (apply lk_LF_no; decide +kernel; decide +kernel; decide +kernel; decide +kernel))
local macro_rules | `(tactic| fail "at") => `(tactic| with_reducible first | assumption | apply mc_0 | apply mc_1 | apply mc_2 | apply mc_3 | apply mc_4 | apply at_0 | apply at_1 | apply at_2 | apply at_3 | apply at_4 | (apply atI_nat; assumption) | (apply at_z; assumption))
local macro_rules | `(tactic| fail "go") => `(tactic| repeat (first
  | apply rd_step
  | with_reducible (first
    | (apply r_kFld; fail "hp"; fail "tx"; fail "tx"; fail "lk")
    | (apply r_ixL; fail "sl"; fail "at") | (apply r_ixT; fail "st"; fail "at")
    | (apply r_kMeth; fail "hp"; fail "lk") | (apply r_kBML; fail "sl")
    | (apply r_lenL; fail "sl") | (apply r_lenT; fail "st") | (apply r_lenD; fail "hp")
    | (apply r_kDGetI; fail "hp"; (first | assumption | rfl)) | (apply r_kDGetS; fail "hp"; (first | assumption | apply mv_rules | apply mv_rows | apply mv_cards | apply mv_now)) | (apply r_kDInI; fail "hp") | (apply r_kDNotInI; fail "hp")
    | (apply r_kAugF; fail "hp"; fail "tx"; fail "tx"; fail "lk")
    | (apply r_isi_tuple_tuple; fail "st") | (apply r_isi_list_tuple; fail "sl") | (apply r_isi_list_list; fail "sl") | (apply r_isi_tuple_list; fail "st")
    | (apply r_kUnT; fail "st"; with_unfolding_all rfl) | (apply r_kIL; fail "sl") | (apply r_kIT; fail "st") | (apply r_kIE; fail "st") )))
local macro_rules | `(tactic| fail "eg") => `(tactic| repeat (first
  | apply stp
  | (refine e_rul0 (fun _ => ?_))

  | (refine e_tup0 (fun _ => ?_)) ))
local macro_rules | `(tactic| fail "egs") => `(tactic| (try (with_reducible refine e_seq ?_)) <;> repeat (first
  | apply stp
  | (with_reducible refine e_seq ?_)
  | (refine e_rul0 (fun _ => ?_))

  | (refine e_tup0 (fun _ => ?_)) ))
section
variable {P : Program} {w : World} {K : PySem.W.Frag} {mg : Str → Option Value} {base : Heap} {a : Adr}
theorem idx_no {xs : List V} {y : V} {j : Nat} (h : ((xs.take j).all fun z => !eqV z y) = true) : ∀ (m : Nat) (z' : V), m < j → xs[m]? = some z' → eqV z' y = false := fun m z' hm e => by
  have hz : z' ∈ xs.take j := List.mem_iff_getElem?.mpr ⟨m, by rw [List.getElem?_take_of_lt hm]; exact e⟩
  have := List.all_eq_true.mp h z' hz
  simpa using this
def Rf.nm : Rf → Str
  | .rules _ _ => "BadRules"
  | .runs _ => "BadRuns"
  | .task => "BadTask"
  | .tasks _ => "BadTasks"
  | .text _ => "BadText"
  | .until_ => "BadUntil"
  | .notThere => "NotThere"
  | .ready => "Ready"
  | .there => "There"
  | .waits => "Waits"
theorem ok_law_told (T : Txt K mg a) : Cal P w K mg base CX0 32 "_law_told" ["_law_work"] (sp_law_told P w mg base 31 a.LineError (csE a) K) := by
  obtain ⟨fd, F, b⟩ := T.f_law_told
  refine ⟨a.law_told, fd, F.ok sc_law_told (fun vs H Q E h => sp1_len h) (fun cdv A outer s H vs Q E hr h => ?_), T.g_law_told, F.kp, b⟩
  refine ⟨_, (pss_one (ps_try_as (i := 1) (tb := fun W => tRet (tCallWp P w K mg base 31 0 W)) (ts := tsTold K a.LineError (csE a)) rfl rfl sc_law_told.nd rfl rfl ⟨rfl, by decide, .inl T.g_LineError⟩ takes0 (fun W pn xe tk _ => (pss_one (ps_ret (pe_callWp (i := 0) tk (hr.mono (by decide)) rfl (.inl rfl)))))
 (fun a_ oe cls d pn hz hf => PSs.by_ (fun D σ H h_ => ⟨_, (pss_cons (ps_set (i := 2) sc_law_told.nd rfl (Or.inl rfl) (pe_lst (pa_cons (pe_callB (call_isE2 hz hf) (by rfl) T.z_isinstance (by decide +kernel) (pa_cons (pv 1) (pa_cons (pe_glob (v := V.ref a.BadRules) rfl T.g_BadRules rfl) pa_nil))) (pa_cons (pe_callB (call_isE2 hz hf) (by rfl) T.z_isinstance (by decide +kernel) (pa_cons (pv 1) (pa_cons (pe_glob (v := V.ref a.BadRuns) rfl T.g_BadRuns rfl) pa_nil))) (pa_cons (pe_callB (call_isE2 hz hf) (by rfl) T.z_isinstance (by decide +kernel) (pa_cons (pv 1) (pa_cons (pe_glob (v := V.ref a.BadTask) rfl T.g_BadTask rfl) pa_nil))) (pa_cons (pe_callB (call_isE2 hz hf) (by rfl) T.z_isinstance (by decide +kernel) (pa_cons (pv 1) (pa_cons (pe_glob (v := V.ref a.BadTasks) rfl T.g_BadTasks rfl) pa_nil))) pa_nil))))))
 (pss_cons (ps_set (i := 2) sc_law_told.nd rfl (Or.inl rfl) (pe_op op_cat (pv 2) (pe_lst (pa_cons (pe_callB (call_isE2 hz hf) (by rfl) T.z_isinstance (by decide +kernel) (pa_cons (pv 1) (pa_cons (pe_glob (v := V.ref a.BadText) rfl T.g_BadText rfl) pa_nil))) (pa_cons (pe_callB (call_isE2 hz hf) (by rfl) T.z_isinstance (by decide +kernel) (pa_cons (pv 1) (pa_cons (pe_glob (v := V.ref a.BadUntil) rfl T.g_BadUntil rfl) pa_nil))) (pa_cons (pe_callB (call_isE2 hz hf) (by rfl) T.z_isinstance (by decide +kernel) (pa_cons (pv 1) (pa_cons (pe_glob (v := V.ref a.NotThere) rfl T.g_NotThere rfl) pa_nil))) pa_nil))))))
 (pss_cons (ps_set (i := 2) sc_law_told.nd rfl (Or.inl rfl) (pe_op op_cat (pv 2) (pe_lst (pa_cons (pe_callB (call_isE2 hz hf) (by rfl) T.z_isinstance (by decide +kernel) (pa_cons (pv 1) (pa_cons (pe_glob (v := V.ref a.Ready) rfl T.g_Ready rfl) pa_nil))) (pa_cons (pe_callB (call_isE2 hz hf) (by rfl) T.z_isinstance (by decide +kernel) (pa_cons (pv 1) (pa_cons (pe_glob (v := V.ref a.There) rfl T.g_There rfl) pa_nil))) (pa_cons (pe_callB (call_isE2 hz hf) (by rfl) T.z_isinstance (by decide +kernel) (pa_cons (pv 1) (pa_cons (pe_glob (v := V.ref a.Waits) rfl T.g_Waits rfl) pa_nil))) pa_nil))))))
 (pss_cons (ps_if (PW.pt (pw_or (pt_cmpR op_ne (pe_bm PySem.F.plainAttrs_list PySem.F.slot_list_count PySem.F.type_list_count mt_countF (pv 2) (pa_cons pe_bl pa_nil)) pe_int (nomark _)) (pw_or1 (pt_not (pt_val (pe_callB (call_isE2 hz hf) (by rfl) T.z_isinstance (by decide +kernel) (pa_cons (pv 1) (pa_cons (q_bty (T := "ValueError") (by rfl) T.z_ValueError (by decide +kernel)) pa_nil))))))))
 (pss_one (ps_ret (pe_tup (pa_cons pe_str (pa_cons pe_int pa_nil)))))
 pss_nil)
 (pss_cons (ps_set (i := 3) sc_law_told.nd rfl (Or.inl rfl) (pe_lst (pa_cons pe_str (pa_cons pe_str (pa_cons pe_str (pa_cons pe_str (pa_cons pe_str (pa_cons pe_str (pa_cons pe_str (pa_cons pe_str (pa_cons pe_str pa_nil)))))))))))
 (pss_cons (ps_set (i := 4) sc_law_told.nd rfl (Or.inl rfl) (pe_ix ix_list (pe_op op_cat (pv 3) (pe_lst (pa_cons pe_str pa_nil))) (pe_bm PySem.F.plainAttrs_list PySem.F.slot_list_index PySem.F.type_list_index mt_index (pv 2) (pa_cons pe_bl pa_nil)) (fun _ _ => rfl)))
 (pss_cons (ps_if (pt_cmpR op_eq (pv 4) pe_str (nomark _))
 (pss_one (ps_ret (pe_tup (pa_cons (pv 4) (pa_cons (pe_xf2 hz hf (pv 1)) (pa_cons (pe_xf2 hz hf (pv 1)) pa_nil))))))
 pss_nil)
 (pss_cons (ps_if (pt_cmpR op_eq (pv 4) pe_str (nomark _))
 (pss_one (ps_ret (pe_tup (pa_cons (pv 4) (pa_cons (pe_xf2 hz hf (pv 1)) pa_nil)))))
 pss_nil)
 (pss_one (ps_ret (pe_tup (pa_cons (pv 4) (pa_cons (pe_ifExp (pt_cmpR op_in_seq (pv 4) (pe_tup (pa_cons pe_str (pa_cons pe_str pa_nil))) (by rfl)) (pe_xf2 hz hf (pv 1)) pe_int) pa_nil))))))))))))), ?told_⟩)))), ?_⟩
  try dsimp only [cxOf, Cx.nox, Cx.wish, List.map_cons, List.map_nil]
  rotate_left
  · obtain ⟨x, rfl, f, L, sp, rfl, lam, hL, k⟩ := h
    rw [show L2.start N_law_told [.ref f] = [some (.ref f), none, none, none, none] from rfl]
    refine ⟨f, L, sp, rfl, lam, hL, ?_⟩
    refine k _ fun cls d H' h' => ?_
    have h2 := h'
    obtain ⟨r, F, C, e, R, s', k'⟩ := h2
    refine ⟨true, by rw [e]; exact R.exm, fun _ a_ na => ⟨⟨_, rfl⟩, ?_⟩, fun q => Bool.noConfusion q⟩
    exact h'
  · obtain ⟨⟨f0, hσ⟩, r, F, C, rfl, R, sat, k⟩ := h_
    subst hσ
    refine Ent.at sat ?_
    have RC := R.toRfC
    fail "egs"
    refine e_isE (i := 0) RC rfl ?_
    fail "egs"
    refine e_isE (i := 1) RC rfl ?_
    fail "egs"
    refine e_isE (i := 2) RC rfl ?_
    fail "egs"
    refine e_isE (i := 3) RC rfl ?_
    fail "egs"
    refine e_lst (by show 4 ≤ 1000; decide) fun p1 => ?_
    fail "egs"
    refine e_isE (i := 4) RC rfl ?_
    fail "egs"
    refine e_isE (i := 5) RC rfl ?_
    fail "egs"
    refine e_isE (i := 6) RC rfl ?_
    fail "egs"
    refine e_lst (by show 3 ≤ 1000; decide) fun p2 => ?_
    fail "egs"
    refine e_cat (by show 4 + 3 ≤ 100000; decide) fun p3 => ?_
    fail "egs"
    refine e_isE (i := 7) RC rfl ?_
    fail "egs"
    refine e_isE (i := 8) RC rfl ?_
    fail "egs"
    refine e_isE (i := 9) RC rfl ?_
    fail "egs"
    refine e_lst (by show 3 ≤ 1000; decide) fun p4 => ?_
    fail "egs"
    refine e_cat (by show 7 + 3 ≤ 100000; decide) fun p5 => ?_
    fail "egs"
    refine e_cntF (n := 1) rfl rfl (by cases r <;> rfl) ?_
    fail "egs"
    refine e_FN rfl ?_
    fail "egs"
    refine e_isV RC ?_
    fail "egs"
    refine e_lst (by show 9 ≤ 1000; decide) fun p6 => ?_
    fail "egs"
    refine e_lst (by show 1 ≤ 1000; decide) fun p7 => ?_
    fail "egs"
    refine e_cat (by show 9 + 1 ≤ 100000; decide) fun p8 => ?_
    fail "egs"
    refine e_idxF (j := r.ix) (z := .bl true) rfl rfl (by cases r <;> rfl) rfl (idx_no (by cases r <;> rfl)) ?_
    obtain ⟨w0, hw0⟩ : ∃ w0, w0 = Rf.nm r := ⟨_, rfl⟩
    refine e_ixL (v := .str w0) (by rw [hw0]; cases r <;> rfl) ?_
    fail "egs"
    subst hw0
    cases r with
    | rules p l =>
      have kk : ∀ t, Ent (At (.ref t) (KTup [.str (Rf.nm (Rf.rules p l)), .int p, .int l]) :: F) fun H => D.rt (.ref t) H := k
      refine e_TD rfl ?_
      fail "egs"
      refine e_xf (v := .int p) rfl R rfl rfl ?_
      fail "egs"
      refine e_xf (v := .int l) rfl R rfl rfl ?_
      fail "egs"
      refine e_tup (by show 3 ≤ 1000; decide) fun t => ?_
      fail "egs"
      exact (kk t).to
    | text n =>
      have kk : ∀ t, Ent (At (.ref t) (KTup [.str (Rf.nm (Rf.text n)), .int n]) :: F) fun H => D.rt (.ref t) H := k
      refine e_FD (by show ¬ (("BadText" : Str) = "BadRules"); decide) ?_
      fail "egs"
      refine e_TD rfl ?_
      fail "egs"
      refine e_xf (v := .int n) rfl R rfl rfl ?_
      fail "egs"
      refine e_tup (by show 2 ≤ 1000; decide) fun t => ?_
      fail "egs"
      exact (kk t).to
    | runs n =>
      have kk : ∀ t, Ent (At (.ref t) (KTup [.str (Rf.nm (Rf.runs n)), .int n]) :: F) fun H => D.rt (.ref t) H := k
      refine e_FD (by show ¬ (("BadRuns" : Str) = "BadRules"); decide) ?_
      fail "egs"
      refine e_FD (by show ¬ (("BadRuns" : Str) = "BadText"); decide) ?_
      fail "egs"
      refine e_tup (by show 2 ≤ 1000; decide) fun t0 => ?_
      fail "egs"
      refine e_inTupX (b := true) rfl rfl (by show inV (.str "BadRuns") [.str "BadRuns", .str "BadTasks"] = true; decide +kernel) ?_
      fail "egs"
      refine e_xf (v := .int n) rfl R rfl rfl ?_
      fail "egs"
      refine e_tup (by show 2 ≤ 1000; decide) fun t => ?_
      fail "egs"
      exact (kk t).to
    | tasks n =>
      have kk : ∀ t, Ent (At (.ref t) (KTup [.str (Rf.nm (Rf.tasks n)), .int n]) :: F) fun H => D.rt (.ref t) H := k
      refine e_FD (by show ¬ (("BadTasks" : Str) = "BadRules"); decide) ?_
      fail "egs"
      refine e_FD (by show ¬ (("BadTasks" : Str) = "BadText"); decide) ?_
      fail "egs"
      refine e_tup (by show 2 ≤ 1000; decide) fun t0 => ?_
      fail "egs"
      refine e_inTupX (b := true) rfl rfl (by show inV (.str "BadTasks") [.str "BadRuns", .str "BadTasks"] = true; decide +kernel) ?_
      fail "egs"
      refine e_xf (v := .int n) rfl R rfl rfl ?_
      fail "egs"
      refine e_tup (by show 2 ≤ 1000; decide) fun t => ?_
      fail "egs"
      exact (kk t).to
    | task =>
      have kk : ∀ t, Ent (At (.ref t) (KTup [.str (Rf.nm (Rf.task)), .int 0]) :: F) fun H => D.rt (.ref t) H := k
      refine e_FD (by show ¬ (("BadTask" : Str) = "BadRules"); decide) ?_
      fail "egs"
      refine e_FD (by show ¬ (("BadTask" : Str) = "BadText"); decide) ?_
      fail "egs"
      refine e_tup (by show 2 ≤ 1000; decide) fun t0 => ?_
      fail "egs"
      refine e_inTupX (b := false) rfl rfl (by show inV (.str "BadTask") [.str "BadRuns", .str "BadTasks"] = false; decide +kernel) ?_
      fail "egs"
      refine e_tup (by show 2 ≤ 1000; decide) fun t => ?_
      fail "egs"
      exact (kk t).to
    | until_ =>
      have kk : ∀ t, Ent (At (.ref t) (KTup [.str (Rf.nm (Rf.until_)), .int 0]) :: F) fun H => D.rt (.ref t) H := k
      refine e_FD (by show ¬ (("BadUntil" : Str) = "BadRules"); decide) ?_
      fail "egs"
      refine e_FD (by show ¬ (("BadUntil" : Str) = "BadText"); decide) ?_
      fail "egs"
      refine e_tup (by show 2 ≤ 1000; decide) fun t0 => ?_
      fail "egs"
      refine e_inTupX (b := false) rfl rfl (by show inV (.str "BadUntil") [.str "BadRuns", .str "BadTasks"] = false; decide +kernel) ?_
      fail "egs"
      refine e_tup (by show 2 ≤ 1000; decide) fun t => ?_
      fail "egs"
      exact (kk t).to
    | notThere =>
      have kk : ∀ t, Ent (At (.ref t) (KTup [.str (Rf.nm (Rf.notThere)), .int 0]) :: F) fun H => D.rt (.ref t) H := k
      refine e_FD (by show ¬ (("NotThere" : Str) = "BadRules"); decide) ?_
      fail "egs"
      refine e_FD (by show ¬ (("NotThere" : Str) = "BadText"); decide) ?_
      fail "egs"
      refine e_tup (by show 2 ≤ 1000; decide) fun t0 => ?_
      fail "egs"
      refine e_inTupX (b := false) rfl rfl (by show inV (.str "NotThere") [.str "BadRuns", .str "BadTasks"] = false; decide +kernel) ?_
      fail "egs"
      refine e_tup (by show 2 ≤ 1000; decide) fun t => ?_
      fail "egs"
      exact (kk t).to
    | ready =>
      have kk : ∀ t, Ent (At (.ref t) (KTup [.str (Rf.nm (Rf.ready)), .int 0]) :: F) fun H => D.rt (.ref t) H := k
      refine e_FD (by show ¬ (("Ready" : Str) = "BadRules"); decide) ?_
      fail "egs"
      refine e_FD (by show ¬ (("Ready" : Str) = "BadText"); decide) ?_
      fail "egs"
      refine e_tup (by show 2 ≤ 1000; decide) fun t0 => ?_
      fail "egs"
      refine e_inTupX (b := false) rfl rfl (by show inV (.str "Ready") [.str "BadRuns", .str "BadTasks"] = false; decide +kernel) ?_
      fail "egs"
      refine e_tup (by show 2 ≤ 1000; decide) fun t => ?_
      fail "egs"
      exact (kk t).to
    | there =>
      have kk : ∀ t, Ent (At (.ref t) (KTup [.str (Rf.nm (Rf.there)), .int 0]) :: F) fun H => D.rt (.ref t) H := k
      refine e_FD (by show ¬ (("There" : Str) = "BadRules"); decide) ?_
      fail "egs"
      refine e_FD (by show ¬ (("There" : Str) = "BadText"); decide) ?_
      fail "egs"
      refine e_tup (by show 2 ≤ 1000; decide) fun t0 => ?_
      fail "egs"
      refine e_inTupX (b := false) rfl rfl (by show inV (.str "There") [.str "BadRuns", .str "BadTasks"] = false; decide +kernel) ?_
      fail "egs"
      refine e_tup (by show 2 ≤ 1000; decide) fun t => ?_
      fail "egs"
      exact (kk t).to
    | waits =>
      have kk : ∀ t, Ent (At (.ref t) (KTup [.str (Rf.nm (Rf.waits)), .int 0]) :: F) fun H => D.rt (.ref t) H := k
      refine e_FD (by show ¬ (("Waits" : Str) = "BadRules"); decide) ?_
      fail "egs"
      refine e_FD (by show ¬ (("Waits" : Str) = "BadText"); decide) ?_
      fail "egs"
      refine e_tup (by show 2 ≤ 1000; decide) fun t0 => ?_
      fail "egs"
      refine e_inTupX (b := false) rfl rfl (by show inV (.str "Waits") [.str "BadRuns", .str "BadTasks"] = false; decide +kernel) ?_
      fail "egs"
      refine e_tup (by show 2 ≤ 1000; decide) fun t => ?_
      fail "egs"
      exact (kk t).to
end
end Qn

/-! XA: all works are refused alike. -/
namespace Qn
open PySem PySem.Spec PySem.Calls PyProof.Rows L2
local macro_rules | `(tactic| fail "ne") => `(tactic| first | assumption | (apply Ne.symm; assumption) | (apply ne_of_none; assumption; assumption) | (apply Ne.symm; apply ne_of_none; assumption; assumption) | (apply ne_of; assumption; assumption; (intro z; cases z)))
local macro_rules | `(tactic| fail "hp") => `(tactic| with_reducible first | assumption | apply upd_same | (apply upd_old; rotate_left; assumption; fail "hp") | (apply upd_oth; rotate_left; fail "ne"; fail "hp"))
local macro_rules | `(tactic| fail "sl") => `(tactic| with_reducible first | assumption | (apply SqL.of; fail "hp"))
local macro_rules | `(tactic| fail "st") => `(tactic| with_reducible first | assumption | (apply SqT.of; fail "hp"))
local macro_rules | `(tactic| fail "tx") => `(tactic| with_reducible first | assumption | (apply Txt.c_Card; assumption) | (apply Txt.n_Card_line; assumption) | (apply Txt.n_Card_quantum; assumption) | (apply Txt.n_Card_share; assumption) | (apply Txt.n_Card_is_ready; assumption) | (apply Txt.n_Card_spent; assumption) | (apply Txt.c_Lines; assumption) | (apply Txt.n_Lines_rules; assumption) | (apply Txt.n_Lines_cards; assumption) | (apply Txt.n_Lines_rows; assumption) | (apply Txt.n_Lines_time; assumption))
local macro_rules | `(tactic| fail "lk") => `(tactic| with_reducible first | assumption | apply lk_LF_rules | apply lk_LF_cards | apply lk_LF_rows | apply lk_LF_time | apply lk_CF_line | apply lk_CF_quantum | apply lk_CF_share | apply lk_CF_is_ready | apply lk_CF_spent | (apply lk_LF_no; decide +kernel; decide +kernel; decide +kernel; decide +kernel))
local macro_rules | `(tactic| fail "at") => `(tactic| with_reducible first | assumption | apply mc_0 | apply mc_1 | apply mc_2 | apply mc_3 | apply mc_4 | apply at_0 | apply at_1 | apply at_2 | apply at_3 | apply at_4 | (apply atI_nat; assumption) | (apply at_z; assumption))
local macro_rules | `(tactic| fail "go") => `(tactic| repeat (first
  | apply rd_step
  | with_reducible (first
    | (apply r_kFld; fail "hp"; fail "tx"; fail "tx"; fail "lk")
    | (apply r_ixL; fail "sl"; fail "at") | (apply r_ixT; fail "st"; fail "at")
    | (apply r_kMeth; fail "hp"; fail "lk") | (apply r_kBML; fail "sl")
    | (apply r_lenL; fail "sl") | (apply r_lenT; fail "st") | (apply r_lenD; fail "hp")
    | (apply r_kDGetI; fail "hp"; (first | assumption | rfl)) | (apply r_kDGetS; fail "hp"; (first | assumption | apply mv_rules | apply mv_rows | apply mv_cards | apply mv_now)) | (apply r_kDInI; fail "hp") | (apply r_kDNotInI; fail "hp")
    | (apply r_kAugF; fail "hp"; fail "tx"; fail "tx"; fail "lk")
    | (apply r_isi_tuple_tuple; fail "st") | (apply r_isi_list_tuple; fail "sl") | (apply r_isi_list_list; fail "sl") | (apply r_isi_tuple_list; fail "st")
    | (apply r_kUnT; fail "st"; with_unfolding_all rfl) | (apply r_kIL; fail "sl") | (apply r_kIT; fail "st") | (apply r_kIE; fail "st") )))
local macro_rules | `(tactic| fail "eg") => `(tactic| repeat (first
  | apply stp
  | (refine e_rul0 (fun _ => ?_))

  | (refine e_tup0 (fun _ => ?_)) ))
local macro_rules | `(tactic| fail "egs") => `(tactic| (try (with_reducible refine e_seq ?_)) <;> repeat (first
  | apply stp
  | (with_reducible refine e_seq ?_)
  | (refine e_rul0 (fun _ => ?_))

  | (refine e_tup0 (fun _ => ?_)) ))
section
variable {P : Program} {w : World} {K : PySem.W.Frag} {mg : Str → Option Value} {base : Heap} {a : Adr}
instance (priority := 1200) has_pd {Pl F : List As} {v : V} {d : PyData} [t : Take Pl v (PDat d) F] : HasD K Pl v d := ⟨fun H s => by
  obtain ⟨k0, h0, s1, s2, ap, nt, x⟩ := s
  obtain ⟨h1, y⟩ := satL_take t x
  have y : Pd k0 v d := y
  exact dp_sub s1 y.dp⟩
theorem dt_rf (r : Rf) : Dt 8 r.d := by
  cases r with
  | rules p l => exact ⟨by simp, fun d hd => by simp at hd; rcases hd with rfl | rfl | rfl; exact (by decide +kernel : PyData.strOk "BadRules" = true); trivial; trivial⟩
  | runs n => exact ⟨by simp, fun d hd => by simp at hd; rcases hd with rfl | rfl; exact (by decide +kernel : PyData.strOk "BadRuns" = true); trivial⟩
  | task => exact ⟨by simp, fun d hd => by simp at hd; rcases hd with rfl | rfl; exact (by decide +kernel : PyData.strOk "BadTask" = true); trivial⟩
  | tasks n => exact ⟨by simp, fun d hd => by simp at hd; rcases hd with rfl | rfl; exact (by decide +kernel : PyData.strOk "BadTasks" = true); trivial⟩
  | text n => exact ⟨by simp, fun d hd => by simp at hd; rcases hd with rfl | rfl; exact (by decide +kernel : PyData.strOk "BadText" = true); trivial⟩
  | until_ => exact ⟨by simp, fun d hd => by simp at hd; rcases hd with rfl | rfl; exact (by decide +kernel : PyData.strOk "BadUntil" = true); trivial⟩
  | notThere => exact ⟨by simp, fun d hd => by simp at hd; rcases hd with rfl | rfl; exact (by decide +kernel : PyData.strOk "NotThere" = true); trivial⟩
  | ready => exact ⟨by simp, fun d hd => by simp at hd; rcases hd with rfl | rfl; exact (by decide +kernel : PyData.strOk "Ready" = true); trivial⟩
  | there => exact ⟨by simp, fun d hd => by simp at hd; rcases hd with rfl | rfl; exact (by decide +kernel : PyData.strOk "There" = true); trivial⟩
  | waits => exact ⟨by simp, fun d hd => by simp at hd; rcases hd with rfl | rfl; exact (by decide +kernel : PyData.strOk "Waits" = true); trivial⟩
theorem ok_law_all (T : Txt K mg a) : Cal P w K mg base CX0 33 "_law_all" ["_law_works", "_law_due"] (sp_law_all P w mg base 31 a.LineError (csE a) K) := by
  obtain ⟨fd, F, b⟩ := T.f_law_all
  refine ⟨a.law_all, fd, F.ok sc_law_all (fun vs H Q E h => sp2_len h) (fun cdv A outer s H vs Q E hr h => ?_), T.g_law_all, F.kp, b⟩
  refine ⟨_, (pss_one (ps_ret (pe_cmpR (op_eqD (by exact hr.units)) (pe_lc (own := [("_law_work", 2)]) (g := (gName 2)) (tt := (tNot (tB (tCall (sp_law_alike K a) [] E0 (tCons (tCall (sp_law_told P w mg base 31 a.LineError (csE a) K) [] E0 (tCons (tVar 2) tNil)) (tCons (tVar 1) tNil)))))) (te := (tVar 2)) rfl sc_law_all.nd (pi_list (pv 0)) (blkOk_by (N := N_law_all) (sc := (defScope s_law_all)) (by decide +kernel)) (fun _ _ _ _ _ => (pg_name (i := 2) sc_law_all.nd rfl (Or.inl rfl))) (fun _ _ _ _ _ => (pts_one (pt_not (pt_val (q_call (ok_law_alike T) (hr.mono (by decide)) pass0 (pa_cons (q_call (ok_law_told T) (hr.mono (by decide)) pass0 (pa_cons (pv 2) pa_nil)) (pa_cons (pv 1) pa_nil))))))) (fun _ _ _ _ _ => (pv 2))) (pe_lst pa_nil) (nomark _)))), ?_⟩
  try dsimp only [cxOf, Cx.nox, Cx.wish, List.map_cons, List.map_nil]
  obtain ⟨x, y, rfl, h⟩ := h
  rw [show L2.start N_law_all [x, y] = [some x, some y, none] from rfl]
  obtain ⟨p, fs, r, F, rfl, hl, sat, hfs, k⟩ := h
  refine Ent.at sat ?_
  fail "egs"
  refine e_lcL (σ0 := [some (.ref p), some y, none]) (fs.map V.ref) rfl (fun i acc Pl => Pl = (At (.ref p) (KLst (fs.map V.ref)) :: At y (PDat (Rf.d r)) :: F) ∧ acc = []) ⟨rfl, rfl⟩ (fun i acc Pl h H s => ?_) (fun D i x acc Pl e h => ?_) (fun D acc Pl h => ?_)
  · obtain ⟨rfl, rfl⟩ := h
    exact Sees.sees (p := p) H s
  · obtain ⟨rfl, rfl⟩ := h
    rw [List.getElem?_map] at e
    obtain ⟨f, hf, rfl⟩ := Option.map_eq_some_iff.mp e
    obtain ⟨sp, F', tk, wk⟩ := hfs f (List.mem_of_getElem? hf)
    fail "egs"
    refine e_and rfl ?_
    fail "egs"
    refine e_toldW wk fun t => ?_
    refine e_pdRf ?_
    fail "egs"
    refine e_alike (Rf.d r) (dt_rf r) ?_
    fail "egs"
    exact e_no _ inferInstance ⟨rfl, rfl⟩
  · obtain ⟨rfl, rfl⟩ := h
    fail "egs"
    refine e_lst (by decide) fun p2 => ?_
    fail "egs"
    refine e_eqD (.list []) (.list []) ((sh_lst (n := 0) sh_nil).mono (by decide)) ((sh_lst (n := 0) sh_nil).mono (by decide)) ?_
    fail "egs"
    exact k.to
end
end Qn

/-! XN: numbers within bounds, of any data. -/
namespace Qn
open PySem PySem.Spec PySem.Calls PyProof.Rows L2
local macro_rules | `(tactic| fail "ne") => `(tactic| first | assumption | (apply Ne.symm; assumption) | (apply ne_of_none; assumption; assumption) | (apply Ne.symm; apply ne_of_none; assumption; assumption) | (apply ne_of; assumption; assumption; (intro z; cases z)))
local macro_rules | `(tactic| fail "hp") => `(tactic| with_reducible first | assumption | apply upd_same | (apply upd_old; rotate_left; assumption; fail "hp") | (apply upd_oth; rotate_left; fail "ne"; fail "hp"))
local macro_rules | `(tactic| fail "sl") => `(tactic| with_reducible first | assumption | (apply SqL.of; fail "hp"))
local macro_rules | `(tactic| fail "st") => `(tactic| with_reducible first | assumption | (apply SqT.of; fail "hp"))
local macro_rules | `(tactic| fail "tx") => `(tactic| with_reducible first | assumption | (apply Txt.c_Card; assumption) | (apply Txt.n_Card_line; assumption) | (apply Txt.n_Card_quantum; assumption) | (apply Txt.n_Card_share; assumption) | (apply Txt.n_Card_is_ready; assumption) | (apply Txt.n_Card_spent; assumption) | (apply Txt.c_Lines; assumption) | (apply Txt.n_Lines_rules; assumption) | (apply Txt.n_Lines_cards; assumption) | (apply Txt.n_Lines_rows; assumption) | (apply Txt.n_Lines_time; assumption))
local macro_rules | `(tactic| fail "lk") => `(tactic| with_reducible first | assumption | apply lk_LF_rules | apply lk_LF_cards | apply lk_LF_rows | apply lk_LF_time | apply lk_CF_line | apply lk_CF_quantum | apply lk_CF_share | apply lk_CF_is_ready | apply lk_CF_spent | (apply lk_LF_no; decide +kernel; decide +kernel; decide +kernel; decide +kernel))
local macro_rules | `(tactic| fail "at") => `(tactic| with_reducible first | assumption | apply mc_0 | apply mc_1 | apply mc_2 | apply mc_3 | apply mc_4 | apply at_0 | apply at_1 | apply at_2 | apply at_3 | apply at_4 | (apply atI_nat; assumption) | (apply at_z; assumption))
local macro_rules | `(tactic| fail "go") => `(tactic| repeat (first
  | apply rd_step
  | with_reducible (first
    | (apply r_kFld; fail "hp"; fail "tx"; fail "tx"; fail "lk")
    | (apply r_ixL; fail "sl"; fail "at") | (apply r_ixT; fail "st"; fail "at")
    | (apply r_kMeth; fail "hp"; fail "lk") | (apply r_kBML; fail "sl")
    | (apply r_lenL; fail "sl") | (apply r_lenT; fail "st") | (apply r_lenD; fail "hp")
    | (apply r_kDGetI; fail "hp"; (first | assumption | rfl)) | (apply r_kDGetS; fail "hp"; (first | assumption | apply mv_rules | apply mv_rows | apply mv_cards | apply mv_now)) | (apply r_kDInI; fail "hp") | (apply r_kDNotInI; fail "hp")
    | (apply r_kAugF; fail "hp"; fail "tx"; fail "tx"; fail "lk")
    | (apply r_isi_tuple_tuple; fail "st") | (apply r_isi_list_tuple; fail "sl") | (apply r_isi_list_list; fail "sl") | (apply r_isi_tuple_list; fail "st")
    | (apply r_kUnT; fail "st"; with_unfolding_all rfl) | (apply r_kIL; fail "sl") | (apply r_kIT; fail "st") | (apply r_kIE; fail "st") )))
local macro_rules | `(tactic| fail "eg") => `(tactic| repeat (first
  | apply stp
  | (refine e_rul0 (fun _ => ?_))

  | (refine e_tup0 (fun _ => ?_)) ))
local macro_rules | `(tactic| fail "egs") => `(tactic| (try (with_reducible refine e_seq ?_)) <;> repeat (first
  | apply stp
  | (with_reducible refine e_seq ?_)
  | (refine e_rul0 (fun _ => ?_))

  | (refine e_tup0 (fun _ => ?_)) ))
/-- a number within bounds, of data -/
def numD (d : PyData) (lo hi : Int) : Bool := match d with
  | .int i => decide (lo ≤ i) && decide (i ≤ hi)
  | _ => false
def spD_is_number (K : PySem.W.Frag) (a : Adr) : Sp := sp3 fun x y z H Q _ => ∃ d lo hi, Dp K H x d ∧ y = .int lo ∧ z = .int hi ∧ Q (.bl (numD d lo hi)) H
section
variable {P : Program} {w : World} {K : PySem.W.Frag} {mg : Str → Option Value} {base : Heap} {a : Adr}
theorem okD_is_number (T : Txt K mg a) : Cal P w K mg base CX0 1 "is_number" ["part", "low", "high"] (spD_is_number K a) := by
  obtain ⟨fd, F, b⟩ := T.f_is_number
  refine ⟨a.is_number, fd, F.ok sc_is_number (fun vs H Q E h => sp3_len h) (fun cdv A outer s H vs Q E hr h => ?_), T.g_is_number, F.kp, b⟩
  refine ⟨_, (pss_one (ps_ret (pe_and (pe_callB call_isi (by rfl) T.z_isinstance (by decide +kernel) (pa_cons (pv 0) (pa_cons (q_bty (T := "int") (by rfl) T.z_int (by decide +kernel)) pa_nil))) (pe_and (pe_not (pe_callB call_isi (by rfl) T.z_isinstance (by decide +kernel) (pa_cons (pv 0) (pa_cons (q_bty (T := "bool") (by rfl) T.z_bool (by decide +kernel)) pa_nil)))) (pe_one (pe_chain qo_le qo_le (pv 1) (pv 0) (pv 2))))))), ?_⟩
  try dsimp only [cxOf, Cx.nox, Cx.wish, List.map_cons, List.map_nil]
  obtain ⟨x, y, z, rfl, h⟩ := h
  rw [show L2.start N_is_number [x, y, z] = [some x, some y, some z] from rfl]
  obtain ⟨d, lo, hi, dx, rfl, rfl, k⟩ := h
  cases dx with
  | int i =>
    fail "go"
    refine r_kIf (fun h1 => ?_) (fun h1 => ?_)
    · fail "go"
      have e : numD (.int i) lo hi = decide (i ≤ hi) := by show (decide (lo ≤ i) && decide (i ≤ hi)) = _; rw [h1]; rfl
      rw [← e]; exact k
    · have e : numD (.int i) lo hi = false := by show (decide (lo ≤ i) && decide (i ≤ hi)) = _; rw [h1]; rfl
      rw [← e]; exact k
  | bl i => fail "go"; exact k
  | non => fail "go"; exact k
  | str i => fail "go"; exact k
  | lst hs ha => fail "go"; refine r_isi_list_int hs ?_; fail "go"; exact k
  | tup hs ha => fail "go"; refine r_isi_tuple_int hs ?_; fail "go"; exact k
theorem e_isnD {Pl : List As} {x : V} {lo hi : Int} {Q : VK} {E : XK} (d : PyData) [h1 : HasD K Pl x d] (k : Ent Pl (fun H => Q (.bl (numD d lo hi)) H)) : Ent Pl (fun H => spD_is_number K a [x, .int lo, .int hi] H Q E) := fun H s => ⟨x, _, _, rfl, d, lo, hi, h1.has H s, rfl, rfl, k H s⟩
end
end Qn

/-! D03a: deeds that are refused. -/
namespace Qn
open PySem PySem.Spec PySem.Calls PyProof.Rows L2
local macro_rules | `(tactic| fail "ne") => `(tactic| first | assumption | (apply Ne.symm; assumption) | (apply ne_of_none; assumption; assumption) | (apply Ne.symm; apply ne_of_none; assumption; assumption) | (apply ne_of; assumption; assumption; (intro z; cases z)))
local macro_rules | `(tactic| fail "hp") => `(tactic| with_reducible first | assumption | apply upd_same | (apply upd_old; rotate_left; assumption; fail "hp") | (apply upd_oth; rotate_left; fail "ne"; fail "hp"))
local macro_rules | `(tactic| fail "sl") => `(tactic| with_reducible first | assumption | (apply SqL.of; fail "hp"))
local macro_rules | `(tactic| fail "st") => `(tactic| with_reducible first | assumption | (apply SqT.of; fail "hp"))
local macro_rules | `(tactic| fail "tx") => `(tactic| with_reducible first | assumption | (apply Txt.c_Card; assumption) | (apply Txt.n_Card_line; assumption) | (apply Txt.n_Card_quantum; assumption) | (apply Txt.n_Card_share; assumption) | (apply Txt.n_Card_is_ready; assumption) | (apply Txt.n_Card_spent; assumption) | (apply Txt.c_Lines; assumption) | (apply Txt.n_Lines_rules; assumption) | (apply Txt.n_Lines_cards; assumption) | (apply Txt.n_Lines_rows; assumption) | (apply Txt.n_Lines_time; assumption))
local macro_rules | `(tactic| fail "lk") => `(tactic| with_reducible first | assumption | apply lk_LF_rules | apply lk_LF_cards | apply lk_LF_rows | apply lk_LF_time | apply lk_CF_line | apply lk_CF_quantum | apply lk_CF_share | apply lk_CF_is_ready | apply lk_CF_spent | (apply lk_LF_no; decide +kernel; decide +kernel; decide +kernel; decide +kernel))
local macro_rules | `(tactic| fail "at") => `(tactic| with_reducible first | assumption | apply mc_0 | apply mc_1 | apply mc_2 | apply mc_3 | apply mc_4 | apply at_0 | apply at_1 | apply at_2 | apply at_3 | apply at_4 | (apply atI_nat; assumption) | (apply at_z; assumption))
local macro_rules | `(tactic| fail "go") => `(tactic| repeat (first
  | apply rd_step
  | with_reducible (first
    | (apply r_kFld; fail "hp"; fail "tx"; fail "tx"; fail "lk")
    | (apply r_ixL; fail "sl"; fail "at") | (apply r_ixT; fail "st"; fail "at")
    | (apply r_kMeth; fail "hp"; fail "lk") | (apply r_kBML; fail "sl")
    | (apply r_lenL; fail "sl") | (apply r_lenT; fail "st") | (apply r_lenD; fail "hp")
    | (apply r_kDGetI; fail "hp"; (first | assumption | rfl)) | (apply r_kDGetS; fail "hp"; (first | assumption | apply mv_rules | apply mv_rows | apply mv_cards | apply mv_now)) | (apply r_kDInI; fail "hp") | (apply r_kDNotInI; fail "hp")
    | (apply r_kAugF; fail "hp"; fail "tx"; fail "tx"; fail "lk")
    | (apply r_isi_tuple_tuple; fail "st") | (apply r_isi_list_tuple; fail "sl") | (apply r_isi_list_list; fail "sl") | (apply r_isi_tuple_list; fail "st")
    | (apply r_kUnT; fail "st"; with_unfolding_all rfl) | (apply r_kIL; fail "sl") | (apply r_kIT; fail "st") | (apply r_kIE; fail "st") )))
local macro_rules | `(tactic| fail "eg") => `(tactic| repeat (first
  | apply stp
  | (refine e_rul0 (fun _ => ?_))

  | (refine e_tup0 (fun _ => ?_)) ))
local macro_rules | `(tactic| fail "egs") => `(tactic| (try (with_reducible refine e_seq ?_)) <;> repeat (first
  | apply stp
  | (with_reducible refine e_seq ?_)
  | (refine e_rul0 (fun _ => ?_))

  | (refine e_tup0 (fun _ => ?_)) ))
/-- no task's number -/
def BadN (x : V) : Prop := ∃ d, (∀ (K : PySem.W.Frag) (H : Hp), Dp K H x d) ∧ numD d 0 19 = false
def spX_need_task (K : PySem.W.Frag) (a : Adr) : Sp := sp1 fun x H Q E => (BadN x ∧ E (.ref a.BadTask) none H) ∨ ∃ t, x = .int t ∧ 0 ≤ t ∧ t ≤ 19 ∧ Q .non H
/-- refused for want of a task, or by r -/
def Rfs (a : Adr) (S : LSt) (y : V) (H : Hp) (E : XK) (R : Prop) : Prop := (BadN y ∧ E (.ref a.BadTask) none H) ∨ (∃ t, y = .int t ∧ 0 ≤ t ∧ t ≤ 19 ∧ look S.cards t = none ∧ E (.ref a.NotThere) none H) ∨ R
def spX_Lines_need_there (K : PySem.W.Frag) (a : Adr) : Sp := sp2 fun x y H Q E => ∃ g S, x = .ref (g.adr .self) ∧ LR (LD a) g S H ∧ Rfs a S y H E (∃ t c, y = .int t ∧ 0 ≤ t ∧ t ≤ 19 ∧ look S.cards t = some c ∧ Q .non H)
def spX_Lines_go (K : PySem.W.Frag) (a : Adr) : Sp := sp2 fun x y H Q E => ∃ g S, x = .ref (g.adr .self) ∧ LR (LD a) g S H ∧ Rfs a S y H E False
def spX_Lines_card (K : PySem.W.Frag) (a : Adr) : Sp := sp2 fun x y H Q E => ∃ g S, x = .ref (g.adr .self) ∧ LR (LD a) g S H ∧ Rfs a S y H E False
def spX_Lines_used (K : PySem.W.Frag) (a : Adr) : Sp := sp2 fun x y H Q E => ∃ g S, x = .ref (g.adr .self) ∧ LR (LD a) g S H ∧ Rfs a S y H E False
def spX_Lines_wait (K : PySem.W.Frag) (a : Adr) : Sp := sp2 fun x y H Q E => ∃ g S, x = .ref (g.adr .self) ∧ LR (LD a) g S H ∧ Rfs a S y H E (∃ t c, y = .int t ∧ 0 ≤ t ∧ t ≤ 19 ∧ look S.cards t = some c ∧ c.rdy = false ∧ E (.ref a.Waits) none H)
def spX_Lines_wake (K : PySem.W.Frag) (a : Adr) : Sp := sp2 fun x y H Q E => ∃ g S, x = .ref (g.adr .self) ∧ LR (LD a) g S H ∧ Rfs a S y H E (∃ t c, y = .int t ∧ 0 ≤ t ∧ t ≤ 19 ∧ look S.cards t = some c ∧ c.rdy = true ∧ E (.ref a.Ready) none H)
def spX_Lines_come (K : PySem.W.Frag) (a : Adr) : Sp := sp2 fun x y H Q E => ∃ g S, x = .ref (g.adr .self) ∧ LR (LD a) g S H ∧ ((BadN y ∧ E (.ref a.BadTask) none H) ∨ ∃ t c, y = .int t ∧ 0 ≤ t ∧ t ≤ 19 ∧ look S.cards t = some c ∧ E (.ref a.There) none H)
section
variable {P : Program} {w : World} {K : PySem.W.Frag} {mg : Str → Option Value} {base : Heap} {a : Adr}
theorem bad_num {H : Hp} {Q : VK} {E : XK} {x : V} (h : BadN x) (k : Q (.bl false) H) : spD_is_number K a [x, .int 0, .int 19] H Q E := by
  obtain ⟨d, h1, h2⟩ := h
  exact ⟨_, _, _, rfl, d, 0, 19, h1 K H, rfl, rfl, by rw [h2]; exact k⟩
theorem good_num {H : Hp} {Q : VK} {E : XK} {t : Int} (h0 : 0 ≤ t) (h1 : t ≤ 19) (k : Q (.bl true) H) : spD_is_number K a [.int t, .int 0, .int 19] H Q E := by
  refine ⟨_, _, _, rfl, .int t, 0, 19, .int t, rfl, rfl, ?_⟩
  have : numD (.int t) 0 19 = true := by show (decide (0 ≤ t) && decide (t ≤ 19)) = true; rw [decide_eq_true h0, decide_eq_true h1]; rfl
  rw [this]; exact k
theorem okX_need_task (T : Txt K mg a) : Cal P w K mg base (L2.CX P w) 2 "need_task" ["task"] (spX_need_task K a) := by
  obtain ⟨fd, F, b⟩ := T.f_need_task
  refine ⟨a.need_task, fd, F.okX sc_need_task (fun vs H Q E h => sp1_len h) (fun cdv A outer s H vs Q E hr h => ?_), T.g_need_task, F.kp, b⟩
  refine ⟨_, (pss_one (ps_if (pt_not (pt_val (q_call (okD_is_number T) (hr.mono (by decide)) pass0 (pa_cons (pv 0) (pa_cons pe_int (pa_cons (q_cI T.g_MOST_TASK) pa_nil))))))
 (pss_one (ps_raise rfl (takes_of rfl rfl rfl rfl) (pmk_own PySem.F.excBase_ValueError T.p_BadTask.own T.g_BadTask T.p_BadTask.kp (raises_own T.p_BadTask.b T.p_BadTask.t) (by exact rfl))))
 pss_nil)), ?_⟩
  try dsimp only [cxOf, Cx.nox, Cx.wish, List.map_cons, List.map_nil]
  obtain ⟨x, rfl, h⟩ := h
  rw [show L2.start N_need_task [x] = [some x] from rfl]
  rcases h with ⟨h, k⟩ | ⟨t, rfl, h0, h1, k⟩
  · fail "go"
    refine bad_num h ?_
    fail "go"
    exact k
  · fail "go"
    refine good_num h0 h1 ?_
    fail "go"
    exact k
theorem okX_Lines_need_there (T : Txt K mg a) : CalM P w K mg base (L2.CX P w) 3 a.Lines "need_there" ["self", "task"] (spX_Lines_need_there K a) := by
  obtain ⟨fd, F, b⟩ := T.f_Lines_need_there
  refine ⟨a.Lines_need_there, fd, F.okX sc_Lines_need_there (fun vs H Q E h => sp2_len h) (fun cdv A outer s H vs Q E hr h => ?_), T.m_Lines_need_there, b, T.c_Lines⟩
  refine ⟨_, (pss_cons (ps_expr (q_call (okX_need_task T) (hr.mono (by decide)) (passes_call (takes_of rfl rfl rfl rfl) (fun _ _ _ _ h => h)) (pa_cons (pv 1) pa_nil)))
 (pss_one (ps_if (pt_cmp (pc_dnotin (by exact hu_of hr) (pv 1) (pe_fld (pv 0) rfl)))
 (pss_one (ps_raise rfl (takes_of rfl rfl rfl rfl) (pmk_own PySem.F.excBase_ValueError T.p_NotThere.own T.g_NotThere T.p_NotThere.kp (raises_own T.p_NotThere.b T.p_NotThere.t) (by exact rfl))))
 pss_nil))), ?_⟩
  try dsimp only [cxOf, Cx.nox, Cx.wish, List.map_cons, List.map_nil]
  obtain ⟨x, y, rfl, h⟩ := h
  rw [show L2.start N_Lines_need_there [x, y] = [some x, some y] from rfl]
  obtain ⟨g, S, rfl, L, h⟩ := h
  have hself := L.sf
  have hcards := L.hcards
  rcases h with ⟨h, k⟩ | ⟨t, rfl, h0, h1, e, k⟩ | ⟨t, c, rfl, h0, h1, e, k⟩
  · fail "go"
    exact ⟨_, rfl, .inl ⟨h, k⟩⟩
  · fail "go"
    refine ⟨_, rfl, .inr ⟨t, rfl, h0, h1, ?_⟩⟩
    fail "go"
    rw [card_no e]
    fail "go"
    exact k
  · fail "go"
    refine ⟨_, rfl, .inr ⟨t, rfl, h0, h1, ?_⟩⟩
    fail "go"
    rw [card_get e]
    fail "go"
    exact k
theorem rfs_no {S : LSt} {y : V} {H : Hp} {E : XK} {R : Prop} (h : Rfs a S y H E False) : Rfs a S y H E R := h.imp id fun h => h.imp id fun z => z.elim
theorem okX_Lines_go (T : Txt K mg a) : CalM P w K mg base (L2.CX P w) 4 a.Lines "go" ["self", "task"] (spX_Lines_go K a) := by
  obtain ⟨fd, F, b⟩ := T.f_Lines_go
  refine ⟨a.Lines_go, fd, F.okX sc_Lines_go (fun vs H Q E h => sp2_len h) (fun cdv A outer s H vs Q E hr h => ?_), T.m_Lines_go, b, T.c_Lines⟩
  refine ⟨_, (pss_cons (ps_expr (q_meth (okX_Lines_need_there T) (hr.mono (by decide)) (passes_call (takes_of rfl rfl rfl rfl) (fun _ _ _ _ h => h)) (pv 0) (pa_cons (pv 1) pa_nil)))
 pss_never), ?_⟩
  try dsimp only [cxOf, Cx.nox, Cx.wish, List.map_cons, List.map_nil]
  obtain ⟨x, y, rfl, h⟩ := h
  rw [show L2.start N_Lines_go [x, y] = [some x, some y, none] from rfl]
  obtain ⟨g, S, rfl, L, h⟩ := h
  have hself := L.sf
  fail "go"
  exact ⟨_, _, rfl, g, S, rfl, L, rfs_no h⟩
theorem okX_Lines_card (T : Txt K mg a) : CalM P w K mg base (L2.CX P w) 4 a.Lines "card" ["self", "task"] (spX_Lines_card K a) := by
  obtain ⟨fd, F, b⟩ := T.f_Lines_card
  refine ⟨a.Lines_card, fd, F.okX sc_Lines_card (fun vs H Q E h => sp2_len h) (fun cdv A outer s H vs Q E hr h => ?_), T.m_Lines_card, b, T.c_Lines⟩
  refine ⟨_, (pss_cons (ps_expr (q_meth (okX_Lines_need_there T) (hr.mono (by decide)) (passes_call (takes_of rfl rfl rfl rfl) (fun _ _ _ _ h => h)) (pv 0) (pa_cons (pv 1) pa_nil)))
 pss_never), ?_⟩
  try dsimp only [cxOf, Cx.nox, Cx.wish, List.map_cons, List.map_nil]
  obtain ⟨x, y, rfl, h⟩ := h
  rw [show L2.start N_Lines_card [x, y] = [some x, some y, none] from rfl]
  obtain ⟨g, S, rfl, L, h⟩ := h
  have hself := L.sf
  fail "go"
  exact ⟨_, _, rfl, g, S, rfl, L, rfs_no h⟩
theorem okX_Lines_used (T : Txt K mg a) : CalM P w K mg base (L2.CX P w) 4 a.Lines "used" ["self", "task"] (spX_Lines_used K a) := by
  obtain ⟨fd, F, b⟩ := T.f_Lines_used
  refine ⟨a.Lines_used, fd, F.okX sc_Lines_used (fun vs H Q E h => sp2_len h) (fun cdv A outer s H vs Q E hr h => ?_), T.m_Lines_used, b, T.c_Lines⟩
  refine ⟨_, (pss_cons (ps_expr (q_meth (okX_Lines_need_there T) (hr.mono (by decide)) (passes_call (takes_of rfl rfl rfl rfl) (fun _ _ _ _ h => h)) (pv 0) (pa_cons (pv 1) pa_nil)))
 pss_never), ?_⟩
  try dsimp only [cxOf, Cx.nox, Cx.wish, List.map_cons, List.map_nil]
  obtain ⟨x, y, rfl, h⟩ := h
  rw [show L2.start N_Lines_used [x, y] = [some x, some y] from rfl]
  obtain ⟨g, S, rfl, L, h⟩ := h
  have hself := L.sf
  fail "go"
  exact ⟨_, _, rfl, g, S, rfl, L, rfs_no h⟩
theorem okX_Lines_wait (T : Txt K mg a) : CalM P w K mg base (L2.CX P w) 4 a.Lines "wait" ["self", "task"] (spX_Lines_wait K a) := by
  obtain ⟨fd, F, b⟩ := T.f_Lines_wait
  refine ⟨a.Lines_wait, fd, F.okX sc_Lines_wait (fun vs H Q E h => sp2_len h) (fun cdv A outer s H vs Q E hr h => ?_), T.m_Lines_wait, b, T.c_Lines⟩
  refine ⟨_, (pss_cons (ps_expr (q_meth (okX_Lines_need_there T) (hr.mono (by decide)) (passes_call (takes_of rfl rfl rfl rfl) (fun _ _ _ _ h => h)) (pv 0) (pa_cons (pv 1) pa_nil)))
 (pss_cons (ps_set (i := 2) sc_Lines_wait.nd rfl (Or.inl rfl) (pe_dget (by exact hu_of hr) (pe_fld (pv 0) rfl) (pv 1) (fun _ _ => rfl)))
 (pss_cons (ps_if (pt_not (pt_val (pe_fld (pv 2) rfl)))
 (pss_one (ps_raise rfl (takes_of rfl rfl rfl rfl) (pmk_own PySem.F.excBase_ValueError T.p_Waits.own T.g_Waits T.p_Waits.kp (raises_own T.p_Waits.b T.p_Waits.t) (by exact rfl))))
 pss_nil)
 pss_never))), ?_⟩
  try dsimp only [cxOf, Cx.nox, Cx.wish, List.map_cons, List.map_nil]
  obtain ⟨x, y, rfl, h⟩ := h
  rw [show L2.start N_Lines_wait [x, y] = [some x, some y, none] from rfl]
  obtain ⟨g, S, rfl, L, h⟩ := h
  have hself := L.sf
  have hcards := L.hcards
  fail "go"
  rcases h with h | h | ⟨t, c, rfl, h0, h1, e, rd, k⟩
  · exact ⟨_, _, rfl, g, S, rfl, L, .inl h⟩
  · exact ⟨_, _, rfl, g, S, rfl, L, .inr (.inl h)⟩
  · refine ⟨_, _, rfl, g, S, rfl, L, .inr (.inr ⟨t, c, rfl, h0, h1, e, ?_⟩)⟩
    have hget := card_get (g := g) e
    have hcard := L.cd e
    fail "go"
    rw [rd]
    fail "go"
    exact k
theorem okX_Lines_wake (T : Txt K mg a) : CalM P w K mg base (L2.CX P w) 4 a.Lines "wake" ["self", "task"] (spX_Lines_wake K a) := by
  obtain ⟨fd, F, b⟩ := T.f_Lines_wake
  refine ⟨a.Lines_wake, fd, F.okX sc_Lines_wake (fun vs H Q E h => sp2_len h) (fun cdv A outer s H vs Q E hr h => ?_), T.m_Lines_wake, b, T.c_Lines⟩
  refine ⟨_, (pss_cons (ps_expr (q_meth (okX_Lines_need_there T) (hr.mono (by decide)) (passes_call (takes_of rfl rfl rfl rfl) (fun _ _ _ _ h => h)) (pv 0) (pa_cons (pv 1) pa_nil)))
 (pss_cons (ps_set (i := 2) sc_Lines_wake.nd rfl (Or.inl rfl) (pe_dget (by exact hu_of hr) (pe_fld (pv 0) rfl) (pv 1) (fun _ _ => rfl)))
 (pss_cons (ps_if (pt_val (pe_fld (pv 2) rfl))
 (pss_one (ps_raise rfl (takes_of rfl rfl rfl rfl) (pmk_own PySem.F.excBase_ValueError T.p_Ready.own T.g_Ready T.p_Ready.kp (raises_own T.p_Ready.b T.p_Ready.t) (by exact rfl))))
 pss_nil)
 pss_never))), ?_⟩
  try dsimp only [cxOf, Cx.nox, Cx.wish, List.map_cons, List.map_nil]
  obtain ⟨x, y, rfl, h⟩ := h
  rw [show L2.start N_Lines_wake [x, y] = [some x, some y, none] from rfl]
  obtain ⟨g, S, rfl, L, h⟩ := h
  have hself := L.sf
  have hcards := L.hcards
  fail "go"
  rcases h with h | h | ⟨t, c, rfl, h0, h1, e, rd, k⟩
  · exact ⟨_, _, rfl, g, S, rfl, L, .inl h⟩
  · exact ⟨_, _, rfl, g, S, rfl, L, .inr (.inl h)⟩
  · refine ⟨_, _, rfl, g, S, rfl, L, .inr (.inr ⟨t, c, rfl, h0, h1, e, ?_⟩)⟩
    have hget := card_get (g := g) e
    have hcard := L.cd e
    fail "go"
    rw [rd]
    fail "go"
    exact k
theorem okX_Lines_come (T : Txt K mg a) : CalM P w K mg base (L2.CX P w) 3 a.Lines "come" ["self", "task"] (spX_Lines_come K a) := by
  obtain ⟨fd, F, b⟩ := T.f_Lines_come
  refine ⟨a.Lines_come, fd, F.okX sc_Lines_come (fun vs H Q E h => sp2_len h) (fun cdv A outer s H vs Q E hr h => ?_), T.m_Lines_come, b, T.c_Lines⟩
  refine ⟨_, (pss_cons (ps_expr (q_call (okX_need_task T) (hr.mono (by decide)) (passes_call (takes_of rfl rfl rfl rfl) (fun _ _ _ _ h => h)) (pa_cons (pv 1) pa_nil)))
 (pss_cons (ps_if (pt_cmp (pc_din (by exact hu_of hr) (pv 1) (pe_fld (pv 0) rfl)))
 (pss_one (ps_raise rfl (takes_of rfl rfl rfl rfl) (pmk_own PySem.F.excBase_ValueError T.p_There.own T.g_There T.p_There.kp (raises_own T.p_There.b T.p_There.t) (by exact rfl))))
 pss_nil)
 pss_never)), ?_⟩
  try dsimp only [cxOf, Cx.nox, Cx.wish, List.map_cons, List.map_nil]
  obtain ⟨x, y, rfl, h⟩ := h
  rw [show L2.start N_Lines_come [x, y] = [some x, some y] from rfl]
  obtain ⟨g, S, rfl, L, h⟩ := h
  have hself := L.sf
  have hcards := L.hcards
  fail "go"
  rcases h with h | ⟨t, c, rfl, h0, h1, e, k⟩
  · exact ⟨_, rfl, .inl h⟩
  · refine ⟨_, rfl, .inr ⟨t, rfl, h0, h1, ?_⟩⟩
    fail "go"
    rw [card_get e]
    fail "go"
    exact k
theorem rfd_plain {c : Addr} {r : Rf} (h : RfC K a.LineError (csE a) c r.ix) (e : r.fs = none) : RfD K a.LineError (csE a) c r := ⟨h, fun fs z => by rw [e] at z; cases z⟩
end
end Qn

/-! D03b: all that is to be refused is. -/
namespace Qn
open PySem PySem.Spec PySem.Calls PyProof.Rows L2
local macro_rules | `(tactic| fail "ne") => `(tactic| first | assumption | (apply Ne.symm; assumption) | (apply ne_of_none; assumption; assumption) | (apply Ne.symm; apply ne_of_none; assumption; assumption) | (apply ne_of; assumption; assumption; (intro z; cases z)))
local macro_rules | `(tactic| fail "hp") => `(tactic| with_reducible first | assumption | apply upd_same | (apply upd_old; rotate_left; assumption; fail "hp") | (apply upd_oth; rotate_left; fail "ne"; fail "hp"))
local macro_rules | `(tactic| fail "sl") => `(tactic| with_reducible first | assumption | (apply SqL.of; fail "hp"))
local macro_rules | `(tactic| fail "st") => `(tactic| with_reducible first | assumption | (apply SqT.of; fail "hp"))
local macro_rules | `(tactic| fail "tx") => `(tactic| with_reducible first | assumption | (apply Txt.c_Card; assumption) | (apply Txt.n_Card_line; assumption) | (apply Txt.n_Card_quantum; assumption) | (apply Txt.n_Card_share; assumption) | (apply Txt.n_Card_is_ready; assumption) | (apply Txt.n_Card_spent; assumption) | (apply Txt.c_Lines; assumption) | (apply Txt.n_Lines_rules; assumption) | (apply Txt.n_Lines_cards; assumption) | (apply Txt.n_Lines_rows; assumption) | (apply Txt.n_Lines_time; assumption))
local macro_rules | `(tactic| fail "lk") => `(tactic| with_reducible first | assumption | apply lk_LF_rules | apply lk_LF_cards | apply lk_LF_rows | apply lk_LF_time | apply lk_CF_line | apply lk_CF_quantum | apply lk_CF_share | apply lk_CF_is_ready | apply lk_CF_spent | (apply lk_LF_no; decide +kernel; decide +kernel; decide +kernel; decide +kernel))
local macro_rules | `(tactic| fail "at") => `(tactic| with_reducible first | assumption | apply mc_0 | apply mc_1 | apply mc_2 | apply mc_3 | apply mc_4 | apply at_0 | apply at_1 | apply at_2 | apply at_3 | apply at_4 | (apply atI_nat; assumption) | (apply at_z; assumption))
local macro_rules | `(tactic| fail "go") => `(tactic| repeat (first
  | apply rd_step
  | with_reducible (first
    | (apply r_kFld; fail "hp"; fail "tx"; fail "tx"; fail "lk")
    | (apply r_ixL; fail "sl"; fail "at") | (apply r_ixT; fail "st"; fail "at")
    | (apply r_kMeth; fail "hp"; fail "lk") | (apply r_kBML; fail "sl")
    | (apply r_lenL; fail "sl") | (apply r_lenT; fail "st") | (apply r_lenD; fail "hp")
    | (apply r_kDGetI; fail "hp"; (first | assumption | rfl)) | (apply r_kDGetS; fail "hp"; (first | assumption | apply mv_rules | apply mv_rows | apply mv_cards | apply mv_now)) | (apply r_kDInI; fail "hp") | (apply r_kDNotInI; fail "hp")
    | (apply r_kAugF; fail "hp"; fail "tx"; fail "tx"; fail "lk")
    | (apply r_isi_tuple_tuple; fail "st") | (apply r_isi_list_tuple; fail "sl") | (apply r_isi_list_list; fail "sl") | (apply r_isi_tuple_list; fail "st")
    | (apply r_kUnT; fail "st"; with_unfolding_all rfl) | (apply r_kIL; fail "sl") | (apply r_kIT; fail "st") | (apply r_kIE; fail "st") )))
local macro_rules | `(tactic| fail "eg") => `(tactic| repeat (first
  | apply stp
  | (refine e_rul0 (fun _ => ?_))

  | (refine e_tup0 (fun _ => ?_)) ))
local macro_rules | `(tactic| fail "egs") => `(tactic| (try (with_reducible refine e_seq ?_)) <;> repeat (first
  | apply stp
  | (with_reducible refine e_seq ?_)
  | (refine e_rul0 (fun _ => ?_))

  | (refine e_tup0 (fun _ => ?_)) ))
def sp_law_is_refused (Pt : Addr) (K : PySem.W.Frag) (a : Adr) : Sp := sp2 fun x y H Q _ => ∃ p q R S F, x = .ref p ∧ y = .ref q ∧ Sat (At (.ref q) (LinX a R S) :: At (.ref p) BoxX :: At (.int 60) (TabX Pt (("_law_is_refused" ++ ".<locals>.") ++ "<lambda>")) :: F) H ∧ Ent (At (.ref q) (LinX a R S) :: At (.ref p) BoxX :: At (.int 60) (TabX Pt (("_law_is_refused" ++ ".<locals>.") ++ "<lambda>")) :: F) (fun H => Q (.bl true) H)
section
variable {P : Program} {w : World} {K : PySem.W.Frag} {mg : Str → Option Value} {base : Heap} {a : Adr}
section
variable {Pl F : List As} {q : Addr} {R : Rul} {S : LSt} {v : V} {Q : VK} {E : XK} {t : Int} {c : Card} {sp : Sp}
/-- a method that needs the task -/
def Needs (a : Adr) (sp : Sp) : Prop := ∀ x y H Q E g S, x = .ref (g.adr LC.self) → LR (LD a) g S H → Rfs a S y H E False → sp [x, y] H Q E
theorem needs_go : Needs a (spX_Lines_go K a) := fun x y H Q E g S e L h => ⟨_, _, rfl, g, S, e, L, h⟩
theorem needs_card : Needs a (spX_Lines_card K a) := fun x y H Q E g S e L h => ⟨_, _, rfl, g, S, e, L, h⟩
theorem needs_used : Needs a (spX_Lines_used K a) := fun x y H Q E g S e L h => ⟨_, _, rfl, g, S, e, L, h⟩
theorem needs_wait : Needs a (spX_Lines_wait K a) := fun x y H Q E g S e L h => ⟨_, _, rfl, g, S, e, L, rfs_no h⟩
theorem needs_wake : Needs a (spX_Lines_wake K a) := fun x y H Q E g S e L h => ⟨_, _, rfl, g, S, e, L, rfs_no h⟩
theorem e_xTask (T : Txt K mg a) [tk : Take Pl (.ref q) (LinX a R S) F] (hs : Needs a sp) (hb : BadN v) (k : RfE K a.LineError (csE a) Pl .task E) : Ent Pl (fun H => sp [.ref q, v] H Q E) := fun H s => by
  obtain ⟨g, e, A, cl⟩ := (s.imp tk.tk).kd
  exact hs _ _ _ _ _ g S (by rw [e]) A.ls.lr (.inl ⟨hb, k a.BadTask none (rfd_plain T.r_BadTask rfl) H (sat_rf0 s rfl)⟩)
theorem e_xNot (T : Txt K mg a) [tk : Take Pl (.ref q) (LinX a R S) F] (hs : Needs a sp) (h0 : 0 ≤ t) (h1 : t ≤ 19) (hn : look S.cards t = none) (k : RfE K a.LineError (csE a) Pl .notThere E) : Ent Pl (fun H => sp [.ref q, .int t] H Q E) := fun H s => by
  obtain ⟨g, e, A, cl⟩ := (s.imp tk.tk).kd
  exact hs _ _ _ _ _ g S (by rw [e]) A.ls.lr (.inr (.inl ⟨t, rfl, h0, h1, hn, k a.NotThere none (rfd_plain T.r_NotThere rfl) H (sat_rf0 s rfl)⟩))
theorem e_xComeB (T : Txt K mg a) [tk : Take Pl (.ref q) (LinX a R S) F] (hb : BadN v) (k : RfE K a.LineError (csE a) Pl .task E) : Ent Pl (fun H => spX_Lines_come K a [.ref q, v] H Q E) := fun H s => by
  obtain ⟨g, e, A, cl⟩ := (s.imp tk.tk).kd
  exact ⟨_, _, rfl, g, S, by rw [e], A.ls.lr, .inl ⟨hb, k a.BadTask none (rfd_plain T.r_BadTask rfl) H (sat_rf0 s rfl)⟩⟩
theorem e_xCome (T : Txt K mg a) [tk : Take Pl (.ref q) (LinX a R S) F] (h0 : 0 ≤ t) (h1 : t ≤ 19) (hn : look S.cards t = some c) (k : RfE K a.LineError (csE a) Pl .there E) : Ent Pl (fun H => spX_Lines_come K a [.ref q, .int t] H Q E) := fun H s => by
  obtain ⟨g, e, A, cl⟩ := (s.imp tk.tk).kd
  exact ⟨_, _, rfl, g, S, by rw [e], A.ls.lr, .inr ⟨t, c, rfl, h0, h1, hn, k a.There none (rfd_plain T.r_There rfl) H (sat_rf0 s rfl)⟩⟩
theorem e_xWait (T : Txt K mg a) [tk : Take Pl (.ref q) (LinX a R S) F] (h0 : 0 ≤ t) (h1 : t ≤ 19) (hn : look S.cards t = some c) (rd : c.rdy = false) (k : RfE K a.LineError (csE a) Pl .waits E) : Ent Pl (fun H => spX_Lines_wait K a [.ref q, .int t] H Q E) := fun H s => by
  obtain ⟨g, e, A, cl⟩ := (s.imp tk.tk).kd
  exact ⟨_, _, rfl, g, S, by rw [e], A.ls.lr, .inr (.inr ⟨t, c, rfl, h0, h1, hn, rd, k a.Waits none (rfd_plain T.r_Waits rfl) H (sat_rf0 s rfl)⟩)⟩
theorem e_xWake (T : Txt K mg a) [tk : Take Pl (.ref q) (LinX a R S) F] (h0 : 0 ≤ t) (h1 : t ≤ 19) (hn : look S.cards t = some c) (rd : c.rdy = true) (k : RfE K a.LineError (csE a) Pl .ready E) : Ent Pl (fun H => spX_Lines_wake K a [.ref q, .int t] H Q E) := fun H s => by
  obtain ⟨g, e, A, cl⟩ := (s.imp tk.tk).kd
  exact ⟨_, _, rfl, g, S, by rw [e], A.ls.lr, .inr (.inr ⟨t, c, rfl, h0, h1, hn, rd, k a.Ready none (rfd_plain T.r_Ready rfl) H (sat_rf0 s rfl)⟩)⟩
end
local instance (priority := 2000) stopS_D03 {P : List As} {t1 t2 : TS} {D : Ends} {σ : L2.St} : Stp P (fun H => tSeq t1 t2 D σ H) P (fun H => Sq (tSeq t1 t2 D) σ H) := stop_seq
theorem ok_law_is_refused (T : Txt K mg a) {Pt : Addr} (TB : LamX.TabB base mg a.cd_law_is_refused Pt) : Cal P w K mg base CX0 34 "_law_is_refused" ["_law_box", "_law_lines"] (sp_law_is_refused Pt K a) := by
  obtain ⟨fd, F, b⟩ := T.f_law_is_refused
  refine ⟨a.law_is_refused, fd, F.ok sc_law_is_refused (fun vs H Q E h => sp2_len h) (fun A outer s H vs Q E hr h => ?_), T.g_law_is_refused, F.kp, b⟩
  refine ⟨_, (pss_cons (ps_set (i := 2) sc_law_is_refused.nd rfl (Or.inl rfl) (q_call (ok_law_take T) (hr.mono (by decide)) pass0 (pa_cons (pv 0) (pa_cons (pe_ix ix_list (pe_lst (pa_cons pe_int (pa_cons (pe_op op_pow pe_int pe_int) pa_nil))) (q_call (ok_law_take T) (hr.mono (by decide)) pass0 (pa_cons (pv 0) (pa_cons pe_int pa_nil))) (fun _ _ => rfl)) pa_nil))))
 (pss_cons (ps_set (i := 4) sc_law_is_refused.nd rfl (Or.inr rfl) (pe_ix ix_list (pe_lst (pa_cons (pe_op qo_add pe_int (pv 2)) (pa_cons (pe_op qo_sub (pe_un un_neg pe_int) (pv 2)) (pa_cons pe_non (pa_cons pe_bl (pa_cons pe_str pa_nil)))))) (q_call (ok_law_take T) (hr.mono (by decide)) pass0 (pa_cons (pv 0) (pa_cons pe_int pa_nil))) (fun _ _ => rfl)))
 (pss_cons (ps_set (i := 3) sc_law_is_refused.nd rfl (Or.inl rfl) (pe_lst (pa_cons (pe_lam0 (n := 30) (ys := ["_law_lines", "_law_none"]) TB rfl (lamS2_by (sc := (defScope s_law_is_refused)) (by decide +kernel)) rfl (fun _ _ _ _ _ _ => rfl) (fun f_ c_ clo A outer s H E hr => (q_meth (okX_Lines_come T) (hr.mono (by decide)) (passes_call (takes_of rfl rfl rfl rfl) (fun _ _ _ _ h => h)) (pv 0) (pa_cons (pv 1) pa_nil)))) (pa_cons (pe_lam1 (n := 30) (ys := ["_law_lines", "_law_none"]) (x := "_law_a") TB rfl (lamS2_by (sc := (defScope s_law_is_refused)) (by decide +kernel)) rfl rfl pe_int rfl (fun _ _ _ _ _ _ _ => ⟨_, rfl, fun _ => rfl⟩) (fun f_ c_ clo A outer s H E hr => (q_meth (okX_Lines_go T) (hr.mono (by decide)) (passes_call (takes_of rfl rfl rfl rfl) (fun _ _ _ _ h => h)) (pv 0) (pa_cons (pv 1) pa_nil)))) (pa_cons (pe_lam1 (n := 30) (ys := ["_law_lines", "_law_none"]) (x := "_law_b") TB rfl (lamS2_by (sc := (defScope s_law_is_refused)) (by decide +kernel)) rfl rfl pe_int rfl (fun _ _ _ _ _ _ _ => ⟨_, rfl, fun _ => rfl⟩) (fun f_ c_ clo A outer s H E hr => (q_meth (okX_Lines_wait T) (hr.mono (by decide)) (passes_call (takes_of rfl rfl rfl rfl) (fun _ _ _ _ h => h)) (pv 0) (pa_cons (pv 1) pa_nil)))) pa_nil)))))
 (pss_cons (ps_set (i := 3) sc_law_is_refused.nd rfl (Or.inl rfl) (pe_op op_cat (pv 3) (pe_lst (pa_cons (pe_lam1 (n := 30) (ys := ["_law_lines", "_law_none"]) (x := "_law_c") TB rfl (lamS2_by (sc := (defScope s_law_is_refused)) (by decide +kernel)) rfl rfl pe_int rfl (fun _ _ _ _ _ _ _ => ⟨_, rfl, fun _ => rfl⟩) (fun f_ c_ clo A outer s H E hr => (q_meth (okX_Lines_wake T) (hr.mono (by decide)) (passes_call (takes_of rfl rfl rfl rfl) (fun _ _ _ _ h => h)) (pv 0) (pa_cons (pv 1) pa_nil)))) (pa_cons (pe_lam1 (n := 30) (ys := ["_law_lines", "_law_none"]) (x := "_law_d") TB rfl (lamS2_by (sc := (defScope s_law_is_refused)) (by decide +kernel)) rfl rfl pe_int rfl (fun _ _ _ _ _ _ _ => ⟨_, rfl, fun _ => rfl⟩) (fun f_ c_ clo A outer s H E hr => (q_meth (okX_Lines_card T) (hr.mono (by decide)) (passes_call (takes_of rfl rfl rfl rfl) (fun _ _ _ _ h => h)) (pv 0) (pa_cons (pv 1) pa_nil)))) (pa_cons (pe_lam1 (n := 30) (ys := ["_law_lines", "_law_none"]) (x := "_law_f") TB rfl (lamS2_by (sc := (defScope s_law_is_refused)) (by decide +kernel)) rfl rfl pe_int rfl (fun _ _ _ _ _ _ _ => ⟨_, rfl, fun _ => rfl⟩) (fun f_ c_ clo A outer s H E hr => (q_meth (okX_Lines_used T) (hr.mono (by decide)) (passes_call (takes_of rfl rfl rfl rfl) (fun _ _ _ _ h => h)) (pv 0) (pa_cons (pv 1) pa_nil)))) pa_nil))))))
 (pss_cons (ps_if (pt_not (pt_val (q_callC (ok_law_all T) (hr.mono (by decide)) (fun _ => rfl) (clOk_scope (by decide)) (pa_cons (pv 3) (pa_cons (pe_tup (pa_cons pe_str (pa_cons pe_int pa_nil))) pa_nil)))))
 (pss_one (ps_ret pe_bl))
 pss_nil)
 (pss_cons (ps_for PassesOwn.never rfl (pi_range1 rfl T.z_range (pa_cons pe_int pa_nil)) (pg_name (i := 5) sc_law_is_refused.nd rfl (Or.inr rfl))
 (pss_one (ps_if (pt_cmpR op_notIn_seq (pv 5) (q_meth0 (ok_Lines_tasks T) (hr.mono (by decide)) pass0 (pv 1)) (by rfl))
 (pss_cons (ps_set (i := 3) sc_law_is_refused.nd rfl (Or.inl rfl) (pe_lst (pa_cons (pe_lam0 (n := 30) (ys := ["_law_lines", "_law_task"]) TB rfl (lamS2_by (sc := (defScope s_law_is_refused)) (by decide +kernel)) rfl (fun _ _ _ _ _ _ => rfl) (fun f_ c_ clo A outer s H E hr => (q_meth (okX_Lines_go T) (hr.mono (by decide)) (passes_call (takes_of rfl rfl rfl rfl) (fun _ _ _ _ h => h)) (pv 0) (pa_cons (pv 1) pa_nil)))) (pa_cons (pe_lam1 (n := 30) (ys := ["_law_lines", "_law_task"]) (x := "_law_a") TB rfl (lamS2_by (sc := (defScope s_law_is_refused)) (by decide +kernel)) rfl rfl pe_int rfl (fun _ _ _ _ _ _ _ => ⟨_, rfl, fun _ => rfl⟩) (fun f_ c_ clo A outer s H E hr => (q_meth (okX_Lines_wait T) (hr.mono (by decide)) (passes_call (takes_of rfl rfl rfl rfl) (fun _ _ _ _ h => h)) (pv 0) (pa_cons (pv 1) pa_nil)))) (pa_cons (pe_lam1 (n := 30) (ys := ["_law_lines", "_law_task"]) (x := "_law_b") TB rfl (lamS2_by (sc := (defScope s_law_is_refused)) (by decide +kernel)) rfl rfl pe_int rfl (fun _ _ _ _ _ _ _ => ⟨_, rfl, fun _ => rfl⟩) (fun f_ c_ clo A outer s H E hr => (q_meth (okX_Lines_wake T) (hr.mono (by decide)) (passes_call (takes_of rfl rfl rfl rfl) (fun _ _ _ _ h => h)) (pv 0) (pa_cons (pv 1) pa_nil)))) pa_nil)))))
 (pss_one (ps_if (pt_not (pt_val (q_callC (ok_law_all T) (hr.mono (by decide)) (fun _ => rfl) (clOk_scope (by decide)) (pa_cons (pe_op op_cat (pv 3) (pe_lst (pa_cons (pe_lam1 (n := 30) (ys := ["_law_lines", "_law_task"]) (x := "_law_c") TB rfl (lamS2_by (sc := (defScope s_law_is_refused)) (by decide +kernel)) rfl rfl pe_int rfl (fun _ _ _ _ _ _ _ => ⟨_, rfl, fun _ => rfl⟩) (fun f_ c_ clo A outer s H E hr => (q_meth (okX_Lines_card T) (hr.mono (by decide)) (passes_call (takes_of rfl rfl rfl rfl) (fun _ _ _ _ h => h)) (pv 0) (pa_cons (pv 1) pa_nil)))) (pa_cons (pe_lam1 (n := 30) (ys := ["_law_lines", "_law_task"]) (x := "_law_d") TB rfl (lamS2_by (sc := (defScope s_law_is_refused)) (by decide +kernel)) rfl rfl pe_int rfl (fun _ _ _ _ _ _ _ => ⟨_, rfl, fun _ => rfl⟩) (fun f_ c_ clo A outer s H E hr => (q_meth (okX_Lines_used T) (hr.mono (by decide)) (passes_call (takes_of rfl rfl rfl rfl) (fun _ _ _ _ h => h)) (pv 0) (pa_cons (pv 1) pa_nil)))) pa_nil)))) (pa_cons (pe_tup (pa_cons pe_str (pa_cons pe_int pa_nil))) pa_nil)))))
 (pss_one (ps_ret pe_bl))
 pss_nil)))
 (pss_cons (ps_if (pt_not (pt_val (q_callC (ok_law_all T) (hr.mono (by decide)) (fun _ => rfl) (clOk_scope (by decide)) (pa_cons (pe_lst (pa_cons (pe_lam0 (n := 30) (ys := ["_law_lines", "_law_task"]) TB rfl (lamS2_by (sc := (defScope s_law_is_refused)) (by decide +kernel)) rfl (fun _ _ _ _ _ _ => rfl) (fun f_ c_ clo A outer s H E hr => (q_meth (okX_Lines_come T) (hr.mono (by decide)) (passes_call (takes_of rfl rfl rfl rfl) (fun _ _ _ _ h => h)) (pv 0) (pa_cons (pv 1) pa_nil)))) pa_nil)) (pa_cons (pe_tup (pa_cons pe_str (pa_cons pe_int pa_nil))) pa_nil)))))
 (pss_one (ps_ret pe_bl))
 pss_nil)
 (pss_cons (ps_set (i := 3) sc_law_is_refused.nd rfl (Or.inl rfl) (pe_ifExp (pt_val (pe_ix ix_tup (q_meth (ok_Lines_card T) (hr.mono (by decide)) pass0 (pv 1) (pa_cons (pv 5) pa_nil)) pe_int (fun _ _ => rfl))) (pe_lst (pa_cons (pe_lam0 (n := 30) (ys := ["_law_lines", "_law_task"]) TB rfl (lamS2_by (sc := (defScope s_law_is_refused)) (by decide +kernel)) rfl (fun _ _ _ _ _ _ => rfl) (fun f_ c_ clo A outer s H E hr => (q_meth (okX_Lines_wake T) (hr.mono (by decide)) (passes_call (takes_of rfl rfl rfl rfl) (fun _ _ _ _ h => h)) (pv 0) (pa_cons (pv 1) pa_nil)))) pa_nil)) (pe_lst (pa_cons (pe_lam1 (n := 30) (ys := ["_law_lines", "_law_task"]) (x := "_law_a") TB rfl (lamS2_by (sc := (defScope s_law_is_refused)) (by decide +kernel)) rfl rfl pe_int rfl (fun _ _ _ _ _ _ _ => ⟨_, rfl, fun _ => rfl⟩) (fun f_ c_ clo A outer s H E hr => (q_meth (okX_Lines_wait T) (hr.mono (by decide)) (passes_call (takes_of rfl rfl rfl rfl) (fun _ _ _ _ h => h)) (pv 0) (pa_cons (pv 1) pa_nil)))) pa_nil))))
 (pss_one (ps_if (pt_not (pt_val (q_callC (ok_law_all T) (hr.mono (by decide)) (fun _ => rfl) (clOk_scope (by decide)) (pa_cons (pv 3) (pa_cons (pe_tup (pa_cons (pe_ix ix_list (pe_lst (pa_cons pe_str (pa_cons pe_str pa_nil))) (pe_callTy qr_int (by rfl) T.z_int (by decide +kernel) (pa_cons (pe_ix ix_tup (q_meth (ok_Lines_card T) (hr.mono (by decide)) pass0 (pv 1) (pa_cons (pv 5) pa_nil)) pe_int (fun _ _ => rfl)) pa_nil)) (fun _ _ => rfl)) (pa_cons pe_int pa_nil))) pa_nil)))))
 (pss_one (ps_ret pe_bl))
 pss_nil)))))))
 (pss_one (ps_ret pe_bl)))))))), ?_⟩
  try dsimp only [cxOf, Cx.nox, Cx.wish, List.map_cons, List.map_nil]
  obtain ⟨x, y, rfl, h⟩ := h
  rw [show L2.start N_law_is_refused [x, y] = [some x, some y, none, none, none, none] from rfl]
  obtain ⟨p, q, R, S, F, rfl, rfl, sat, k⟩ := h
  refine Ent.at sat ?_
  clear sat
  obtain ⟨cl, hcl⟩ : ∃ cl, (envOfC (Str.ofString "_law_is_refused") (defScope s_law_is_refused) s.heap.objs.size a.law_is_refused (Value.ref a.cd_law_is_refused)).cells = cl := ⟨_, rfl⟩
  fail "egs"
  refine e_powC cpow18 ?_
  fail "egs"
  refine e_lst (by show 2 ≤ 1000; decide) fun pf => ?_
  fail "egs"
  refine e_take (by decide) (by decide) fun f0 f1 f2 => ?_
  fail "egs"
  obtain ⟨far0, hf, hf1, hf2⟩ : ∃ z : Int, atI [V.int 2, V.int (10 ^ (18 : Int).toNat)] f0 = some (V.int z) ∧ 0 < z ∧ z ≤ 1000000000000000000 := by
    rcases (by omega : f0 = 0 ∨ f0 = 1) with rfl | rfl
    · exact ⟨2, rfl, by decide, by decide⟩
    · exact ⟨_, rfl, by decide, by decide⟩
  refine e_ixL hf ?_
  fail "egs"
  refine e_take hf1 hf2 fun far g1 g2 => ?_
  fail "egs"
  refine e_lst (by show 5 ≤ 1000; decide) fun p5 => ?_
  fail "egs"
  refine e_take (by decide) (by decide) fun r r0 r1 => ?_
  fail "egs"
  obtain ⟨v, hv, hbad⟩ : ∃ v : V, atI [V.int (20 + far), .int (-1 - far), .non, .bl true, .str "0"] r = some v ∧ BadN v := by
    rcases (by omega : r = 0 ∨ r = 1 ∨ r = 2 ∨ r = 3 ∨ r = 4) with rfl | rfl | rfl | rfl | rfl
    · exact ⟨_, rfl, .int (20 + far), fun K H => .int _, by show (decide (0 ≤ 20 + far) && decide (20 + far ≤ 19)) = false; rw [decide_eq_false (p := 20 + far ≤ 19) (by omega), Bool.and_false]⟩
    · exact ⟨_, rfl, .int (-1 - far), fun K H => .int _, by show (decide (0 ≤ -1 - far) && decide (-1 - far ≤ 19)) = false; rw [decide_eq_false (p := 0 ≤ -1 - far) (by omega)]; rfl⟩
    · exact ⟨_, rfl, .none, fun K H => .non, rfl⟩
    · exact ⟨_, rfl, .bool true, fun K H => .bl _, rfl⟩
    · exact ⟨_, rfl, .str "0", fun K H => .str _, rfl⟩
  refine e_ixL hv ?_
  refine Ent.to (Q := At (.ref q) (LinX a R S) :: At (.ref p) BoxX :: At (.int 60) (TabX Pt (("_law_is_refused" ++ ".<locals>.") ++ "<lambda>")) :: F) ?_
  fail "egs"
  refine e_lamQ (m := 31) (Pr := P) (w := w) (K := K) (mg := mg) (base := base) (q := "_law_is_refused" ++ ".<locals>.") ⟨rfl, rfl, rfl, rfl, rfl, rfl, hcl, rfl⟩ fun f1 => ?_
  fail "egs"
  refine e_lam1 ?_
  fail "egs"
  refine e_lamQ (m := 31) (Pr := P) (w := w) (K := K) (mg := mg) (base := base) (q := "_law_is_refused" ++ ".<locals>.") ⟨rfl, rfl, rfl, rfl, rfl, rfl, hcl, rfl⟩ fun f2 => ?_
  fail "egs"
  refine e_lam1 ?_
  fail "egs"
  refine e_lamQ (m := 31) (Pr := P) (w := w) (K := K) (mg := mg) (base := base) (q := "_law_is_refused" ++ ".<locals>.") ⟨rfl, rfl, rfl, rfl, rfl, rfl, hcl, rfl⟩ fun f3 => ?_
  fail "egs"
  refine e_lst (by show 3 ≤ 1000; decide) fun w1 => ?_
  fail "egs"
  refine e_lam1 ?_
  fail "egs"
  refine e_lamQ (m := 31) (Pr := P) (w := w) (K := K) (mg := mg) (base := base) (q := "_law_is_refused" ++ ".<locals>.") ⟨rfl, rfl, rfl, rfl, rfl, rfl, hcl, rfl⟩ fun f4 => ?_
  fail "egs"
  refine e_lam1 ?_
  fail "egs"
  refine e_lamQ (m := 31) (Pr := P) (w := w) (K := K) (mg := mg) (base := base) (q := "_law_is_refused" ++ ".<locals>.") ⟨rfl, rfl, rfl, rfl, rfl, rfl, hcl, rfl⟩ fun f5 => ?_
  fail "egs"
  refine e_lam1 ?_
  fail "egs"
  refine e_lamQ (m := 31) (Pr := P) (w := w) (K := K) (mg := mg) (base := base) (q := "_law_is_refused" ++ ".<locals>.") ⟨rfl, rfl, rfl, rfl, rfl, rfl, hcl, rfl⟩ fun f6 => ?_
  fail "egs"
  refine e_lst (by show 3 ≤ 1000; decide) fun w2 => ?_
  fail "egs"
  refine e_cat (by show 3 + 3 ≤ 100000; decide) fun w3 => ?_
  fail "egs"
  refine e_frz (p := w3) ?_
  rw [show Kel (.lst ([V.ref f1, V.ref f2, V.ref f3] ++ [V.ref f4, V.ref f5, V.ref f6])) = KLst ([f1, f2, f3, f4, f5, f6].map V.ref) from rfl]
  refine e_tCallC (N := N_law_is_refused) (sc := defScope s_law_is_refused) ⟨hcl, rfl, rfl⟩ ?_
  fail "egs"
  refine e_tup (by show 2 ≤ 1000; decide) fun due => ?_
  fail "egs"
  refine e_pd (.ref due) ?_
  rw [show PDat (.tuple [.str "BadTask", .int 0]) = PDat (Rf.d .task) from rfl]
  refine e_callQ fun os osf cv => ?_
  refine e_lallP [f1, f2, f3, f4, f5, f6] .task (by show 6 ≤ 100; decide) (fun f hf => ?_) ?_
  · have cvv : ∀ (i : Nat) y v', [Str.ofString "_law_lines", Str.ofString "_law_none"][i]? = some y → [V.ref q, v][i]? = some v' → CelV cl os y v' := fun i y v' e1 e2 => by
      match i, e1, e2 with
      | 0, e1, e2 => cases e1; cases e2; exact cv 1 _ _ rfl rfl rfl
      | 1, e1, e2 => cases e1; cases e2; exact cv 4 _ _ rfl rfl rfl
      | i + 2, e1, _ => cases e1
    simp only [List.mem_cons, List.not_mem_nil, or_false] at hf
    rcases hf with rfl | rfl | rfl | rfl | rfl | rfl
    · refine ⟨_, _, inferInstance, workLam (vals := [.ref q, v]) (σ := [some (.ref q), some v]) rfl osf rfl cvv fun X E Q hE => ?_⟩
      fail "egs"
      exact e_xComeB (Q := Q) T hbad hE
    · refine ⟨_, _, inferInstance, workLam (vals := [.ref q, v]) (σ := [some (.ref q), some v]) rfl osf rfl cvv fun X E Q hE => ?_⟩
      fail "egs"
      exact e_xTask (sp := spX_Lines_go K a) (Q := Q) T needs_go hbad hE
    · refine ⟨_, _, inferInstance, workLam (vals := [.ref q, v]) (σ := [some (.ref q), some v]) rfl osf rfl cvv fun X E Q hE => ?_⟩
      fail "egs"
      exact e_xTask (sp := spX_Lines_wait K a) (Q := Q) T needs_wait hbad hE
    · refine ⟨_, _, inferInstance, workLam (vals := [.ref q, v]) (σ := [some (.ref q), some v]) rfl osf rfl cvv fun X E Q hE => ?_⟩
      fail "egs"
      exact e_xTask (sp := spX_Lines_wake K a) (Q := Q) T needs_wake hbad hE
    · refine ⟨_, _, inferInstance, workLam (vals := [.ref q, v]) (σ := [some (.ref q), some v]) rfl osf rfl cvv fun X E Q hE => ?_⟩
      fail "egs"
      exact e_xTask (sp := spX_Lines_card K a) (Q := Q) T needs_card hbad hE
    · refine ⟨_, _, inferInstance, workLam (vals := [.ref q, v]) (σ := [some (.ref q), some v]) rfl osf rfl cvv fun X E Q hE => ?_⟩
      fail "egs"
      exact e_xTask (sp := spX_Lines_used K a) (Q := Q) T needs_used hbad hE
  refine e_kCut ?_
  fail "egs"
  refine Ent.to (Q := At (.ref q) (LinX a R S) :: At (.ref p) BoxX :: At (.int 60) (TabX Pt (("_law_is_refused" ++ ".<locals>.") ++ "<lambda>")) :: F) ?_
  refine e_range1 (by omega) ?_
  refine e_forR0 (n := 20) (fun _ σ P' => ∃ (v2 v3 v5 : Option V), σ = [some (.ref p), some (.ref q), v2, v3, some v, v5] ∧ P' = At (.ref q) (LinX a R S) :: At (.ref p) BoxX :: At (.int 60) (TabX Pt (("_law_is_refused" ++ ".<locals>.") ++ "<lambda>")) :: F) ⟨_, _, _, rfl, rfl⟩ ?_ ?_
  · rintro j σ P' hj ⟨v2, v3, v5, rfl, rfl⟩
    refine e_kdOk (v := .ref q) inferInstance fun ok w_ => ?_
    have j0 : (0 : Int) ≤ (j : Nat) := by omega
    have j1 : ((j : Nat) : Int) ≤ 19 := by omega
    fail "egs"
    refine e_tasks fun there => ?_
    fail "egs"
    refine e_ifN (fun ht => ?_) (fun ht => ?_)
    · have hn : look S.cards (j : Nat) = none := by
        cases e : look S.cards (j : Nat) with
        | none => rfl
        | some c => exact absurd ((mem_tasks w_).mpr ⟨c, e⟩) ht
      fail "egs"
      refine e_lamQ (m := 31) (Pr := P) (w := w) (K := K) (mg := mg) (base := base) (q := "_law_is_refused" ++ ".<locals>.") ⟨rfl, rfl, rfl, rfl, rfl, rfl, hcl, rfl⟩ fun f1 => ?_
      fail "egs"
      refine e_lam1 ?_
      fail "egs"
      refine e_lamQ (m := 31) (Pr := P) (w := w) (K := K) (mg := mg) (base := base) (q := "_law_is_refused" ++ ".<locals>.") ⟨rfl, rfl, rfl, rfl, rfl, rfl, hcl, rfl⟩ fun f2 => ?_
      fail "egs"
      refine e_lam1 ?_
      fail "egs"
      refine e_lamQ (m := 31) (Pr := P) (w := w) (K := K) (mg := mg) (base := base) (q := "_law_is_refused" ++ ".<locals>.") ⟨rfl, rfl, rfl, rfl, rfl, rfl, hcl, rfl⟩ fun f3 => ?_
      fail "egs"
      refine e_lst (by show 3 ≤ 1000; decide) fun w1 => ?_
      fail "egs"
      refine e_tCallC (N := N_law_is_refused) (sc := defScope s_law_is_refused) ⟨hcl, rfl, rfl⟩ ?_
      fail "egs"
      refine e_lam1 ?_
      fail "egs"
      refine e_lamQ (m := 31) (Pr := P) (w := w) (K := K) (mg := mg) (base := base) (q := "_law_is_refused" ++ ".<locals>.") ⟨rfl, rfl, rfl, rfl, rfl, rfl, hcl, rfl⟩ fun f4 => ?_
      fail "egs"
      refine e_lam1 ?_
      fail "egs"
      refine e_lamQ (m := 31) (Pr := P) (w := w) (K := K) (mg := mg) (base := base) (q := "_law_is_refused" ++ ".<locals>.") ⟨rfl, rfl, rfl, rfl, rfl, rfl, hcl, rfl⟩ fun f5 => ?_
      fail "egs"
      refine e_lst (by show 2 ≤ 1000; decide) fun w2 => ?_
      fail "egs"
      refine e_cat (by show 3 + 2 ≤ 100000; decide) fun w3 => ?_
      refine e_frz (p := w3) ?_
      rw [show Kel (.lst ([V.ref f1, V.ref f2, V.ref f3] ++ [V.ref f4, V.ref f5])) = KLst ([f1, f2, f3, f4, f5].map V.ref) from rfl]
      fail "egs"
      refine e_tup (by show 2 ≤ 1000; decide) fun due => ?_
      refine e_pd (.ref due) ?_
      rw [show PDat (.tuple [.str "NotThere", .int 0]) = PDat (Rf.d .notThere) from rfl]
      fail "egs"
      refine e_callQ fun os osf cv => ?_
      refine e_lallP [f1, f2, f3, f4, f5] .notThere (by show 5 ≤ 100; decide) (fun f hf => ?_) ?_
      · have cvv : ∀ (i : Nat) y v', [Str.ofString "_law_lines", Str.ofString "_law_task"][i]? = some y → [.ref q, .int (j : Nat)][i]? = some v' → CelV cl os y v' := fun i y v' e1 e2 => by
          match i, e1, e2 with
          | 0, e1, e2 => cases e1; cases e2; exact cv 1 _ _ rfl rfl rfl
          | 1, e1, e2 => cases e1; cases e2; exact cv 5 _ _ rfl rfl rfl
          | i + 2, e1, _ => cases e1
        simp only [List.mem_cons, List.not_mem_nil, or_false] at hf
        rcases hf with rfl | rfl | rfl | rfl | rfl
        · refine ⟨_, _, inferInstance, workLam (vals := [.ref q, .int (j : Nat)]) (σ := [some (.ref q), some (.int (j : Nat))]) rfl osf rfl cvv fun X E Q hE => ?_⟩
          fail "egs"
          exact e_xNot (sp := spX_Lines_go K a) (Q := Q) T needs_go j0 j1 hn hE
        · refine ⟨_, _, inferInstance, workLam (vals := [.ref q, .int (j : Nat)]) (σ := [some (.ref q), some (.int (j : Nat))]) rfl osf rfl cvv fun X E Q hE => ?_⟩
          fail "egs"
          exact e_xNot (sp := spX_Lines_wait K a) (Q := Q) T needs_wait j0 j1 hn hE
        · refine ⟨_, _, inferInstance, workLam (vals := [.ref q, .int (j : Nat)]) (σ := [some (.ref q), some (.int (j : Nat))]) rfl osf rfl cvv fun X E Q hE => ?_⟩
          fail "egs"
          exact e_xNot (sp := spX_Lines_wake K a) (Q := Q) T needs_wake j0 j1 hn hE
        · refine ⟨_, _, inferInstance, workLam (vals := [.ref q, .int (j : Nat)]) (σ := [some (.ref q), some (.int (j : Nat))]) rfl osf rfl cvv fun X E Q hE => ?_⟩
          fail "egs"
          exact e_xNot (sp := spX_Lines_card K a) (Q := Q) T needs_card j0 j1 hn hE
        · refine ⟨_, _, inferInstance, workLam (vals := [.ref q, .int (j : Nat)]) (σ := [some (.ref q), some (.int (j : Nat))]) rfl osf rfl cvv fun X E Q hE => ?_⟩
          fail "egs"
          exact e_xNot (sp := spX_Lines_used K a) (Q := Q) T needs_used j0 j1 hn hE
      refine e_kCut ?_
      fail "egs"
      refine e_nx ⟨_, ⟨_, _, _, rfl, rfl⟩, inferInstance⟩
    · obtain ⟨c, hc⟩ := (mem_tasks w_).mp ht
      fail "egs"
      refine e_tCallC (N := N_law_is_refused) (sc := defScope s_law_is_refused) ⟨hcl, rfl, rfl⟩ ?_
      fail "egs"
      refine e_lamQ (m := 31) (Pr := P) (w := w) (K := K) (mg := mg) (base := base) (q := "_law_is_refused" ++ ".<locals>.") ⟨rfl, rfl, rfl, rfl, rfl, rfl, hcl, rfl⟩ fun f1 => ?_
      fail "egs"
      refine e_lst (by show 1 ≤ 1000; decide) fun w1 => ?_
      refine e_frz (p := w1) ?_
      rw [show Kel (.lst [V.ref f1]) = KLst ([f1].map V.ref) from rfl]
      fail "egs"
      refine e_tup (by show 2 ≤ 1000; decide) fun due => ?_
      refine e_pd (.ref due) ?_
      rw [show PDat (.tuple [.str "There", .int 0]) = PDat (Rf.d .there) from rfl]
      fail "egs"
      refine e_callQ fun os osf cv => ?_
      refine e_lallP [f1] .there (by show 1 ≤ 100; decide) (fun f hf => ?_) ?_
      · have cvv : ∀ (i : Nat) y v', [Str.ofString "_law_lines", Str.ofString "_law_task"][i]? = some y → [.ref q, .int (j : Nat)][i]? = some v' → CelV cl os y v' := fun i y v' e1 e2 => by
          match i, e1, e2 with
          | 0, e1, e2 => cases e1; cases e2; exact cv 1 _ _ rfl rfl rfl
          | 1, e1, e2 => cases e1; cases e2; exact cv 5 _ _ rfl rfl rfl
          | i + 2, e1, _ => cases e1
        simp only [List.mem_cons, List.not_mem_nil, or_false] at hf
        rcases hf with rfl
        · refine ⟨_, _, inferInstance, workLam (vals := [.ref q, .int (j : Nat)]) (σ := [some (.ref q), some (.int (j : Nat))]) rfl osf rfl cvv fun X E Q hE => ?_⟩
          fail "egs"
          exact e_xCome (Q := Q) T j0 j1 hc hE
      refine e_kCut ?_
      fail "egs"
      refine Ent.to (Q := At (.ref q) (LinX a R S) :: At (.ref p) BoxX :: At (.int 60) (TabX Pt (("_law_is_refused" ++ ".<locals>.") ++ "<lambda>")) :: F) ?_
      refine e_card hc fun cp => ?_
      fail "egs"
      refine e_if (fun hr => ?_) (fun hr => ?_)
      · fail "egs"
        refine e_lamQ (m := 31) (Pr := P) (w := w) (K := K) (mg := mg) (base := base) (q := "_law_is_refused" ++ ".<locals>.") ⟨rfl, rfl, rfl, rfl, rfl, rfl, hcl, rfl⟩ fun f1 => ?_
        fail "egs"
        refine e_lst (by show 1 ≤ 1000; decide) fun w1 => ?_
        refine e_frz (p := w1) ?_
        rw [show Kel (.lst [V.ref f1]) = KLst ([f1].map V.ref) from rfl]
        fail "egs"
        refine e_tCallC (N := N_law_is_refused) (sc := defScope s_law_is_refused) ⟨hcl, rfl, rfl⟩ ?_
        fail "egs"
        refine e_lst (by show 2 ≤ 1000; decide) fun w2 => ?_
        fail "egs"
        refine e_card hc fun cq => ?_
        fail "egs"
        rw [hr]
        refine e_ixL (v := .str "Ready") rfl ?_
        fail "egs"
        refine e_tup (by show 2 ≤ 1000; decide) fun due => ?_
        refine e_pd (.ref due) ?_
        rw [show PDat (.tuple [.str "Ready", .int 0]) = PDat (Rf.d .ready) from rfl]
        fail "egs"
        refine e_callQ fun os osf cv => ?_
        refine e_lallP [f1] .ready (by show 1 ≤ 100; decide) (fun f hf => ?_) ?_
        · have cvv : ∀ (i : Nat) y v', [Str.ofString "_law_lines", Str.ofString "_law_task"][i]? = some y → [.ref q, .int (j : Nat)][i]? = some v' → CelV cl os y v' := fun i y v' e1 e2 => by
            match i, e1, e2 with
            | 0, e1, e2 => cases e1; cases e2; exact cv 1 _ _ rfl rfl rfl
            | 1, e1, e2 => cases e1; cases e2; exact cv 5 _ _ rfl rfl rfl
            | i + 2, e1, _ => cases e1
          simp only [List.mem_cons, List.not_mem_nil, or_false] at hf
          rcases hf with rfl
          · refine ⟨_, _, inferInstance, workLam (vals := [.ref q, .int (j : Nat)]) (σ := [some (.ref q), some (.int (j : Nat))]) rfl osf rfl cvv fun X E Q hE => ?_⟩
            fail "egs"
            exact e_xWake (Q := Q) T j0 j1 hc hr hE
        refine e_kCut ?_
        fail "egs"
        refine e_nx ⟨_, ⟨_, _, _, rfl, rfl⟩, inferInstance⟩
      · fail "egs"
        refine e_lam1 ?_
        fail "egs"
        refine e_lamQ (m := 31) (Pr := P) (w := w) (K := K) (mg := mg) (base := base) (q := "_law_is_refused" ++ ".<locals>.") ⟨rfl, rfl, rfl, rfl, rfl, rfl, hcl, rfl⟩ fun f1 => ?_
        fail "egs"
        refine e_lst (by show 1 ≤ 1000; decide) fun w1 => ?_
        refine e_frz (p := w1) ?_
        rw [show Kel (.lst [V.ref f1]) = KLst ([f1].map V.ref) from rfl]
        fail "egs"
        refine e_tCallC (N := N_law_is_refused) (sc := defScope s_law_is_refused) ⟨hcl, rfl, rfl⟩ ?_
        fail "egs"
        refine e_lst (by show 2 ≤ 1000; decide) fun w2 => ?_
        fail "egs"
        refine e_card hc fun cq => ?_
        fail "egs"
        rw [hr]
        refine e_ixL (v := .str "Waits") rfl ?_
        fail "egs"
        refine e_tup (by show 2 ≤ 1000; decide) fun due => ?_
        refine e_pd (.ref due) ?_
        rw [show PDat (.tuple [.str "Waits", .int 0]) = PDat (Rf.d .waits) from rfl]
        fail "egs"
        refine e_callQ fun os osf cv => ?_
        refine e_lallP [f1] .waits (by show 1 ≤ 100; decide) (fun f hf => ?_) ?_
        · have cvv : ∀ (i : Nat) y v', [Str.ofString "_law_lines", Str.ofString "_law_task"][i]? = some y → [.ref q, .int (j : Nat)][i]? = some v' → CelV cl os y v' := fun i y v' e1 e2 => by
            match i, e1, e2 with
            | 0, e1, e2 => cases e1; cases e2; exact cv 1 _ _ rfl rfl rfl
            | 1, e1, e2 => cases e1; cases e2; exact cv 5 _ _ rfl rfl rfl
            | i + 2, e1, _ => cases e1
          simp only [List.mem_cons, List.not_mem_nil, or_false] at hf
          rcases hf with rfl
          · refine ⟨_, _, inferInstance, workLam (vals := [.ref q, .int (j : Nat)]) (σ := [some (.ref q), some (.int (j : Nat))]) rfl osf rfl cvv fun X E Q hE => ?_⟩
            fail "egs"
            exact e_xWait (Q := Q) T j0 j1 hc hr hE
        refine e_kCut ?_
        fail "egs"
        refine e_nx ⟨_, ⟨_, _, _, rfl, rfl⟩, inferInstance⟩
  · rintro σ P' ⟨v2, v3, v5, rfl, rfl⟩
    fail "egs"
    exact k
end
end Qn

/-! D03c: deeds that can be done; all that lines tell. -/
namespace Qn
open PySem PySem.Spec PySem.Calls PyProof.Rows L2
local macro_rules | `(tactic| fail "ne") => `(tactic| first | assumption | (apply Ne.symm; assumption) | (apply ne_of_none; assumption; assumption) | (apply Ne.symm; apply ne_of_none; assumption; assumption) | (apply ne_of; assumption; assumption; (intro z; cases z)))
local macro_rules | `(tactic| fail "hp") => `(tactic| with_reducible first | assumption | apply upd_same | (apply upd_old; rotate_left; assumption; fail "hp") | (apply upd_oth; rotate_left; fail "ne"; fail "hp"))
local macro_rules | `(tactic| fail "sl") => `(tactic| with_reducible first | assumption | (apply SqL.of; fail "hp"))
local macro_rules | `(tactic| fail "st") => `(tactic| with_reducible first | assumption | (apply SqT.of; fail "hp"))
local macro_rules | `(tactic| fail "tx") => `(tactic| with_reducible first | assumption | (apply Txt.c_Card; assumption) | (apply Txt.n_Card_line; assumption) | (apply Txt.n_Card_quantum; assumption) | (apply Txt.n_Card_share; assumption) | (apply Txt.n_Card_is_ready; assumption) | (apply Txt.n_Card_spent; assumption) | (apply Txt.c_Lines; assumption) | (apply Txt.n_Lines_rules; assumption) | (apply Txt.n_Lines_cards; assumption) | (apply Txt.n_Lines_rows; assumption) | (apply Txt.n_Lines_time; assumption))
local macro_rules | `(tactic| fail "lk") => `(tactic| with_reducible first | assumption | apply lk_LF_rules | apply lk_LF_cards | apply lk_LF_rows | apply lk_LF_time | apply lk_CF_line | apply lk_CF_quantum | apply lk_CF_share | apply lk_CF_is_ready | apply lk_CF_spent | (apply lk_LF_no; decide +kernel; decide +kernel; decide +kernel; decide +kernel))
local macro_rules | `(tactic| fail "at") => `(tactic| with_reducible first | assumption | apply mc_0 | apply mc_1 | apply mc_2 | apply mc_3 | apply mc_4 | apply at_0 | apply at_1 | apply at_2 | apply at_3 | apply at_4 | (apply atI_nat; assumption) | (apply at_z; assumption))
local macro_rules | `(tactic| fail "go") => `(tactic| repeat (first
  | apply rd_step
  | with_reducible (first
    | (apply r_kFld; fail "hp"; fail "tx"; fail "tx"; fail "lk")
    | (apply r_ixL; fail "sl"; fail "at") | (apply r_ixT; fail "st"; fail "at")
    | (apply r_kMeth; fail "hp"; fail "lk") | (apply r_kBML; fail "sl")
    | (apply r_lenL; fail "sl") | (apply r_lenT; fail "st") | (apply r_lenD; fail "hp")
    | (apply r_kDGetI; fail "hp"; (first | assumption | rfl)) | (apply r_kDGetS; fail "hp"; (first | assumption | apply mv_rules | apply mv_rows | apply mv_cards | apply mv_now)) | (apply r_kDInI; fail "hp") | (apply r_kDNotInI; fail "hp")
    | (apply r_kAugF; fail "hp"; fail "tx"; fail "tx"; fail "lk")
    | (apply r_isi_tuple_tuple; fail "st") | (apply r_isi_list_tuple; fail "sl") | (apply r_isi_list_list; fail "sl") | (apply r_isi_tuple_list; fail "st")
    | (apply r_kUnT; fail "st"; with_unfolding_all rfl) | (apply r_kIL; fail "sl") | (apply r_kIT; fail "st") | (apply r_kIE; fail "st") )))
local macro_rules | `(tactic| fail "eg") => `(tactic| repeat (first
  | apply stp
  | (refine e_rul0 (fun _ => ?_))

  | (refine e_tup0 (fun _ => ?_)) ))
local macro_rules | `(tactic| fail "egs") => `(tactic| (try (with_reducible refine e_seq ?_)) <;> repeat (first
  | apply stp
  | (with_reducible refine e_seq ?_)
  | (refine e_rul0 (fun _ => ?_))

  | (refine e_tup0 (fun _ => ?_)) ))
inductive DeedOk (S : LSt) : Str → Int → Prop
  | tick : DeedOk S "tick" 0
  | come (t : Int) (h : look S.cards t = none) (h0 : 0 ≤ t) (h1 : t ≤ 19) : DeedOk S "come" t
  | go (t : Int) (c : Card) (h : look S.cards t = some c) : DeedOk S "go" t
  | wait (t : Int) (c : Card) (h : look S.cards t = some c) (r : c.rdy = true) : DeedOk S "wait" t
  | wake (t : Int) (c : Card) (h : look S.cards t = some c) (r : c.rdy = false) : DeedOk S "wake" t
def afterD (R : Rul) (S : LSt) (s : Str) (t : Int) : LSt := if s = "tick" then S.tick R else if s = "come" then S.come R t else if s = "go" then S.go t else if s = "wait" then S.wait t else S.wake R t
def toldO (R : Rul) (S : LSt) (s : Str) : Option Int := if s = "tick" then (S.boostNow R).first else none
def cardP (S : LSt) (t : Int) : PyData := .tuple [.int t, .tuple [.int (S.card t).line, .int (S.card t).q, .int (S.card t).sh, .bool (S.card t).rdy], .list ((S.card t).sp.map .int)]
def shownP (S : LSt) : PyData := .list [.list (S.rows.map fun xs => .list (xs.map .int)), .int S.time, .list ((tasksOf S).map (cardP S))]
def sp_law_shown (K : PySem.W.Frag) (a : Adr) : Sp := sp1 fun x H Q _ => ∃ q R S F, x = .ref q ∧ Sat (At (.ref q) (LinX a R S) :: F) H ∧ ∀ v, Ent (At v (PDat (shownP S)) :: At (.ref q) (LinX a R S) :: F) (fun H => Q v H)
instance (priority := 1150) hp_rows {P F : List As} {p : Addr} {qs : List Addr} {xss : List (List Int)} [t : Take P (.ref p) (KRows qs xss) F] : HasP P (.ref p) (.list (xss.map fun xs => .list (xs.map .int))) := ⟨fun k h s => by
  obtain ⟨h1, D, e, e1, h2, h3⟩ := satL_take t s
  cases e
  refine .lst e1 ?_
  have : ∀ (qs : List Addr) (xss : List (List Int)), qs.length = xss.length → (∀ (i : Nat) (q : Addr) (xs : List Int), qs[i]? = some q → xss[i]? = some xs → k q = some (.lst (xs.map V.int))) → PdAll k (qs.map V.ref) (xss.map fun xs => .list (xs.map .int)) := by
    intro qs
    induction qs with
    | nil => intro xss hl _; cases xss with
      | nil => exact .nil
      | cons _ _ => cases hl
    | cons q qs ih =>
      intro xss hl hh
      cases xss with
      | nil => cases hl
      | cons xs xss => exact .cons (.lst (hh 0 q xs rfl rfl) (PdAll.map fun i _ => .int i)) (ih xss (by simpa using hl) fun i q xs e1 e2 => hh (i + 1) q xs e1 e2)
  exact this qs xss h2 h3⟩
def sp_law_deed (K : PySem.W.Frag) (a : Adr) : Sp := sp2 fun x y H Q _ => ∃ p q R S F, x = .ref p ∧ y = .ref q ∧ Sat (At (.ref q) (LinX a R S) :: At (.ref p) BoxX :: F) H ∧ ∀ u s t, DeedOk S s t → Ent (At (.ref u) (KTup [.str s, .int t]) :: At (.ref q) (LinX a R S) :: At (.ref p) BoxX :: F) (fun H => Q (.ref u) H)
def sp_law_done (K : PySem.W.Frag) (a : Adr) : Sp := sp3 fun x y z H Q _ => ∃ q R S s t F, x = .ref q ∧ y = .str s ∧ z = .int t ∧ Sat (At (.ref q) (LinX a R S) :: F) H ∧ DeedOk S s t ∧ Ent (At (.ref q) (LinX a R (afterD R S s t)) :: F) (fun H => Q (bV (toldO R S s)) H)
section
variable {P : Program} {w : World} {K : PySem.W.Frag} {mg : Str → Option Value} {base : Heap} {a : Adr}
theorem ok_law_deed (T : Txt K mg a) : Cal P w K mg base CX0 5 "_law_deed" ["_law_box", "_law_lines"] (sp_law_deed K a) := by
  obtain ⟨fd, F, b⟩ := T.f_law_deed
  refine ⟨a.law_deed, fd, F.ok sc_law_deed (fun vs H Q E h => sp2_len h) (fun cdv A outer s H vs Q E hr h => ?_), T.g_law_deed, F.kp, b⟩
  refine ⟨_, (pss_cons (ps_set (i := 2) sc_law_deed.nd rfl (Or.inl rfl) (q_meth0 (ok_Lines_tasks T) (hr.mono (by decide)) pass0 (pv 1)))
 (pss_cons (ps_par (i := 3) (j := 4) (by rfl) sc_law_deed.nd rfl rfl (by decide) rfl rfl (pa_cons (q_call (ok_law_take T) (hr.mono (by decide)) pass0 (pa_cons (pv 0) (pa_cons pe_int pa_nil))) (pa_cons (q_call (ok_law_take T) (hr.mono (by decide)) pass0 (pa_cons (pv 0) (pa_cons pe_int pa_nil))) pa_nil)) (by rfl))
 (pss_cons (ps_if (pt_cmpR op_notIn_seq (pv 3) (pv 2) (by rfl))
 (pss_one (ps_ret (pe_tup (pa_cons pe_str (pa_cons (pv 3) pa_nil)))))
 pss_nil)
 (pss_cons (ps_if (pt_cmpR op_eq (pv 4) pe_int (nomark _))
 (pss_one (ps_ret (pe_tup (pa_cons pe_str (pa_cons (pv 3) pa_nil)))))
 pss_nil)
 (pss_cons (ps_if (pt_cmpR qo_gt (pv 4) pe_int (nomark _))
 (pss_one (ps_ret (pe_tup (pa_cons pe_str (pa_cons pe_int pa_nil)))))
 pss_nil)
 (pss_one (ps_ret (pe_ifExp (pt_val (pe_ix ix_tup (q_meth (ok_Lines_card T) (hr.mono (by decide)) pass0 (pv 1) (pa_cons (pv 3) pa_nil)) pe_int (fun _ _ => rfl))) (pe_tup (pa_cons pe_str (pa_cons (pv 3) pa_nil))) (pe_tup (pa_cons pe_str (pa_cons (pv 3) pa_nil))))))))))), ?_⟩
  try dsimp only [cxOf, Cx.nox, Cx.wish, List.map_cons, List.map_nil]
  obtain ⟨x, y, rfl, h⟩ := h
  rw [show L2.start N_law_deed [x, y] = [some x, some y, none, none, none] from rfl]
  obtain ⟨p, q, R, S, F, rfl, rfl, sat, k⟩ := h
  refine Ent.at sat ?_
  clear sat
  refine e_kdOk (v := .ref q) inferInstance fun ok w_ => ?_
  fail "egs"
  refine e_tasks fun there => ?_
  fail "egs"
  refine e_take (by decide) (by decide) fun t t0 t1 => ?_
  fail "egs"
  refine e_take (by decide) (by decide) fun way w0 w1 => ?_
  fail "egs"
  refine e_ifN (fun ht => ?_) (fun ht => ?_)
  · have hn : look S.cards t = none := by
      cases e : look S.cards t with
      | none => rfl
      | some c => exact absurd ((mem_tasks w_).mpr ⟨c, e⟩) ht
    fail "egs"
    refine e_tup (by show 2 ≤ 1000; decide) fun u => ?_
    fail "egs"
    exact (k u _ _ (.come t hn t0 (by omega))).to
  · obtain ⟨c, hc⟩ := (mem_tasks w_).mp ht
    fail "egs"
    refine e_ifD (fun _ => ?_) (fun _ => ?_)
    · fail "egs"
      refine e_tup (by show 2 ≤ 1000; decide) fun u => ?_
      fail "egs"
      exact (k u _ _ (.go t c hc)).to
    · fail "egs"
      refine e_ifD (fun _ => ?_) (fun _ => ?_)
      · fail "egs"
        refine e_tup (by show 2 ≤ 1000; decide) fun u => ?_
        fail "egs"
        exact (k u _ _ .tick).to
      · fail "egs"
        refine e_card hc fun cp => ?_
        fail "egs"
        refine e_if (fun hr => ?_) (fun hr => ?_)
        · fail "egs"
          refine e_tup (by show 2 ≤ 1000; decide) fun u => ?_
          fail "egs"
          exact (k u _ _ (.wait t c hc hr)).to
        · fail "egs"
          refine e_tup (by show 2 ≤ 1000; decide) fun u => ?_
          fail "egs"
          exact (k u _ _ (.wake t c hc hr)).to
theorem ok_law_done (T : Txt K mg a) : Cal P w K mg base CX0 5 "_law_done" ["_law_lines", "_law_deed_here", "_law_task"] (sp_law_done K a) := by
  obtain ⟨fd, F, b⟩ := T.f_law_done
  refine ⟨a.law_done, fd, F.ok sc_law_done (fun vs H Q E h => sp3_len h) (fun cdv A outer s H vs Q E hr h => ?_), T.g_law_done, F.kp, b⟩
  refine ⟨_, (pss_cons (ps_if (pt_cmpR op_eq (pv 1) pe_str (nomark _))
 (pss_one (ps_ret (q_meth0 (ok_Lines_tick T) (hr.mono (by decide)) pass0 (pv 0))))
 pss_nil)
 (pss_cons (ps_if (pt_cmpR op_eq (pv 1) pe_str (nomark _))
 (pss_one (ps_ret (q_meth (ok_Lines_come T) (hr.mono (by decide)) pass0 (pv 0) (pa_cons (pv 2) pa_nil))))
 pss_nil)
 (pss_cons (ps_if (pt_cmpR op_eq (pv 1) pe_str (nomark _))
 (pss_one (ps_ret (q_meth (ok_Lines_go T) (hr.mono (by decide)) pass0 (pv 0) (pa_cons (pv 2) pa_nil))))
 pss_nil)
 (pss_one (ps_ret (pe_ifExp (pt_cmpR op_eq (pv 1) pe_str (nomark _)) (q_meth (ok_Lines_wait T) (hr.mono (by decide)) pass0 (pv 0) (pa_cons (pv 2) pa_nil)) (q_meth (ok_Lines_wake T) (hr.mono (by decide)) pass0 (pv 0) (pa_cons (pv 2) pa_nil)))))))), ?_⟩
  try dsimp only [cxOf, Cx.nox, Cx.wish, List.map_cons, List.map_nil]
  obtain ⟨x, y, z, rfl, h⟩ := h
  rw [show L2.start N_law_done [x, y, z] = [some x, some y, some z] from rfl]
  obtain ⟨q, R, S, s0, t, F, rfl, rfl, rfl, sat, d, k⟩ := h
  refine Ent.at sat ?_
  clear sat
  cases d with
  | tick =>
    have k : Ent (At (.ref q) (LinX a R (S.tick R)) :: F) fun H => Q (bV (S.boostNow R).first) H := k
    fail "egs"
    refine e_TD (by decide) ?_
    fail "egs"
    refine e_tick ?_
    fail "egs"
    exact k
  | come _ h h0 h1 =>
    have k : Ent (At (.ref q) (LinX a R (S.come R t)) :: F) fun H => Q .non H := k
    fail "egs"
    refine e_FD (by decide) ?_
    fail "egs"
    refine e_TD (by decide) ?_
    fail "egs"
    refine e_come h ⟨h0, h1⟩ ?_
    fail "egs"
    exact k
  | go _ c h =>
    have k : Ent (At (.ref q) (LinX a R (S.go t)) :: F) fun H => Q .non H := k
    fail "egs"
    refine e_FD (by decide) ?_
    fail "egs"
    refine e_FD (by decide) ?_
    fail "egs"
    refine e_TD (by decide) ?_
    fail "egs"
    refine e_go h ?_
    fail "egs"
    exact k
  | wait _ c h r =>
    have k : Ent (At (.ref q) (LinX a R (S.wait t)) :: F) fun H => Q .non H := k
    fail "egs"
    refine e_FD (by decide) ?_
    fail "egs"
    refine e_FD (by decide) ?_
    fail "egs"
    refine e_FD (by decide) ?_
    fail "egs"
    refine e_TD (by decide) ?_
    fail "egs"
    refine e_wait h r ?_
    fail "egs"
    exact k
  | wake _ c h r =>
    have k : Ent (At (.ref q) (LinX a R (S.wake R t)) :: F) fun H => Q .non H := k
    fail "egs"
    refine e_FD (by decide) ?_
    fail "egs"
    refine e_FD (by decide) ?_
    fail "egs"
    refine e_FD (by decide) ?_
    fail "egs"
    refine e_FD (by decide) ?_
    fail "egs"
    refine e_wake h r ?_
    fail "egs"
    exact k
theorem tasks_card {S : LSt} {t : Int} (h : t ∈ tasksOf S) : look S.cards t = some (S.card t) := by
  unfold tasksOf at h
  have := (List.mem_filter.mp h).2
  unfold LSt.card
  cases e : look S.cards t with
  | none => rw [e] at this; cases this
  | some c => rfl
theorem ok_law_shown (T : Txt K mg a) : Cal P w K mg base CX0 5 "_law_shown" ["_law_lines"] (sp_law_shown K a) := by
  obtain ⟨fd, F, b⟩ := T.f_law_shown
  refine ⟨a.law_shown, fd, F.ok sc_law_shown (fun vs H Q E h => sp1_len h) (fun cdv A outer s H vs Q E hr h => ?_), T.g_law_shown, F.kp, b⟩
  refine ⟨_, (pss_cons (ps_setLc (i := 1) (own := [("_law_task", 2)]) (g := (gName 2)) (tt := tYes) (te := (tTup (tCons (tVar 2) (tCons (tMeth a.Lines "card" (sp_Lines_card K a) [] E0 (tVar 0) (tCons (tVar 2) tNil)) (tCons (tMeth a.Lines "used" (sp_Lines_used K a) [] E0 (tVar 0) (tCons (tVar 2) tNil)) tNil))))) rfl sc_law_shown.nd rfl rfl (sw_true rfl rfl rfl (by decide +kernel)) (pi_list (q_meth0 (ok_Lines_tasks T) (hr.mono (by decide)) pass0 (pv 0))) (blkOk_by (N := N_law_shown) (sc := (defScope s_law_shown)) (by decide +kernel)) (fun _ _ _ _ _ => (pg_name (i := 2) sc_law_shown.nd rfl (Or.inl rfl))) (fun _ _ _ _ _ => pts_nil) (fun _ _ _ _ _ => (pe_tup (pa_cons (pv 2) (pa_cons (q_meth (ok_Lines_card T) (hr.mono (by decide)) pass0 (pv 0) (pa_cons (pv 2) pa_nil)) (pa_cons (q_meth (ok_Lines_used T) (hr.mono (by decide)) pass0 (pv 0) (pa_cons (pv 2) pa_nil)) pa_nil))))))
 (pss_one (ps_ret (pe_lst (pa_cons (q_meth0 (ok_Lines_lines T) (hr.mono (by decide)) pass0 (pv 0)) (pa_cons (q_meth0 (ok_Lines_now T) (hr.mono (by decide)) pass0 (pv 0)) (pa_cons (pv 1) pa_nil))))))), ?_⟩
  try dsimp only [cxOf, Cx.nox, Cx.wish, List.map_cons, List.map_nil]
  obtain ⟨x, rfl, h⟩ := h
  rw [show L2.start N_law_shown [x] = [some x, none, none] from rfl]
  obtain ⟨q, R, S, F, rfl, sat, k⟩ := h
  refine Ent.at sat ?_
  clear sat
  have h20 : (tasksOf S).length ≤ 20 := Nat.le_trans (List.length_filter_le _ _) (by decide)
  fail "egs"
  refine e_tasks fun there => ?_
  refine e_pds [] ?_
  fail "egs"
  refine Ent.to (Q := At (.int 72) (PDats [] []) :: At (.ref there) (LstX ((tasksOf S).map V.int)) :: At (.ref q) (LinX a R S) :: F) ?_
  refine e_lcL (σ0 := [some (.ref q), none, none]) ((tasksOf S).map V.int) rfl (fun i acc P' => acc.length = i ∧ ∃ ds, ds = ((tasksOf S).take i).map (cardP S) ∧ P' = At (.int 72) (PDats acc ds) :: At (.ref there) (LstX ((tasksOf S).map V.int)) :: At (.ref q) (LinX a R S) :: F) ⟨rfl, [], rfl, rfl⟩ ?_ ?_ ?_
  · rintro i acc P' ⟨_, ds, _, rfl⟩ H s
    exact Sees.sees (p := there) H s
  · rintro D2 i x1 acc P' hx ⟨hl, ds, hds, rfl⟩
    rw [List.getElem?_map] at hx
    obtain ⟨t, ht, rfl⟩ := Option.map_eq_some_iff.mp hx
    have hi : i < (tasksOf S).length := (List.getElem?_eq_some_iff.mp ht).1
    have hc := tasks_card (List.mem_of_getElem? ht)
    fail "egs"
    refine e_and rfl ?_
    fail "egs"
    refine e_card hc fun cp => ?_
    fail "egs"
    refine e_used hc fun us => ?_
    refine e_frz (p := us) ?_
    fail "egs"
    refine e_tup (by show 3 ≤ 1000; decide) fun tu => ?_
    refine e_pds (acc ++ [.ref tu]) ?_
    fail "egs"
    exact e_pu _ inferInstance (by omega) ⟨by simp [hl], ds ++ [.tuple [.int t, .tuple [.int (S.card t).line, .int (S.card t).q, .int (S.card t).sh, .bool (S.card t).rdy], .list ((S.card t).sp.map .int)]], by rw [hds, List.take_succ, ht, List.map_append]; rfl, rfl⟩
  · rintro D2 acc P' ⟨hl, ds, hds, rfl⟩
    rw [List.length_map, List.take_length] at hds
    subst hds
    refine e_frz (p := D2) ?_
    refine e_pd (.ref D2) ?_
    fail "egs"
    refine e_lines fun D qs hq => ?_
    fail "egs"
    refine e_now ?_
    fail "egs"
    refine e_lst (by show 3 ≤ 1000; decide) fun L => ?_
    refine e_frz (p := L) ?_
    refine e_pd (.ref L) ?_
    fail "egs"
    have k2 : Ent (At (.ref L) (PDat (.list [.list (S.rows.map fun xs => .list (xs.map .int)), .int S.time, .list ((tasksOf S).map (cardP S))])) :: At (.ref q) (LinX a R S) :: F) (fun H => Q (.ref L) H) := k (.ref L)
    exact k2.to
end
end Qn

/-! L03: the law: what is refused changes nothing. -/
namespace Qn
open PySem PySem.Spec PySem.Calls PyProof.Rows L2
local macro_rules | `(tactic| fail "ne") => `(tactic| first | assumption | (apply Ne.symm; assumption) | (apply ne_of_none; assumption; assumption) | (apply Ne.symm; apply ne_of_none; assumption; assumption) | (apply ne_of; assumption; assumption; (intro z; cases z)))
local macro_rules | `(tactic| fail "hp") => `(tactic| with_reducible first | assumption | apply upd_same | (apply upd_old; rotate_left; assumption; fail "hp") | (apply upd_oth; rotate_left; fail "ne"; fail "hp"))
local macro_rules | `(tactic| fail "sl") => `(tactic| with_reducible first | assumption | (apply SqL.of; fail "hp"))
local macro_rules | `(tactic| fail "st") => `(tactic| with_reducible first | assumption | (apply SqT.of; fail "hp"))
local macro_rules | `(tactic| fail "tx") => `(tactic| with_reducible first | assumption | (apply Txt.c_Card; assumption) | (apply Txt.n_Card_line; assumption) | (apply Txt.n_Card_quantum; assumption) | (apply Txt.n_Card_share; assumption) | (apply Txt.n_Card_is_ready; assumption) | (apply Txt.n_Card_spent; assumption) | (apply Txt.c_Lines; assumption) | (apply Txt.n_Lines_rules; assumption) | (apply Txt.n_Lines_cards; assumption) | (apply Txt.n_Lines_rows; assumption) | (apply Txt.n_Lines_time; assumption))
local macro_rules | `(tactic| fail "lk") => `(tactic| with_reducible first | assumption | apply lk_LF_rules | apply lk_LF_cards | apply lk_LF_rows | apply lk_LF_time | apply lk_CF_line | apply lk_CF_quantum | apply lk_CF_share | apply lk_CF_is_ready | apply lk_CF_spent | (apply lk_LF_no; decide +kernel; decide +kernel; decide +kernel; decide +kernel))
local macro_rules | `(tactic| fail "at") => `(tactic| with_reducible first | assumption | apply mc_0 | apply mc_1 | apply mc_2 | apply mc_3 | apply mc_4 | apply at_0 | apply at_1 | apply at_2 | apply at_3 | apply at_4 | (apply atI_nat; assumption) | (apply at_z; assumption))
local macro_rules | `(tactic| fail "go") => `(tactic| repeat (first
  | apply rd_step
  | with_reducible (first
    | (apply r_kFld; fail "hp"; fail "tx"; fail "tx"; fail "lk")
    | (apply r_ixL; fail "sl"; fail "at") | (apply r_ixT; fail "st"; fail "at")
    | (apply r_kMeth; fail "hp"; fail "lk") | (apply r_kBML; fail "sl")
    | (apply r_lenL; fail "sl") | (apply r_lenT; fail "st") | (apply r_lenD; fail "hp")
    | (apply r_kDGetI; fail "hp"; (first | assumption | rfl)) | (apply r_kDGetS; fail "hp"; (first | assumption | apply mv_rules | apply mv_rows | apply mv_cards | apply mv_now)) | (apply r_kDInI; fail "hp") | (apply r_kDNotInI; fail "hp")
    | (apply r_kAugF; fail "hp"; fail "tx"; fail "tx"; fail "lk")
    | (apply r_isi_tuple_tuple; fail "st") | (apply r_isi_list_tuple; fail "sl") | (apply r_isi_list_list; fail "sl") | (apply r_isi_tuple_list; fail "st")
    | (apply r_kUnT; fail "st"; with_unfolding_all rfl) | (apply r_kIL; fail "sl") | (apply r_kIT; fail "st") | (apply r_kIE; fail "st") )))
local macro_rules | `(tactic| fail "eg") => `(tactic| repeat (first
  | apply stp
  | (refine e_rul0 (fun _ => ?_))

  | (refine e_tup0 (fun _ => ?_)) ))
local macro_rules | `(tactic| fail "egs") => `(tactic| (try (with_reducible refine e_seq ?_)) <;> repeat (first
  | apply stp
  | (with_reducible refine e_seq ?_)
  | (refine e_rul0 (fun _ => ?_))

  | (refine e_tup0 (fun _ => ?_)) ))
theorem sat_boxT {p q Pt : Addr} {H : Hp} {u : Str} (B : Box p q H) (hP : H Pt = some (.tbl #[])) (h1 : Pt ≠ p) (h2 : Pt ≠ q) : Sat [At (.int 60) (TabX Pt u), At (.ref p) BoxX] H := by
  have nF : ¬ BoxF p q Pt := fun z => z.elim h1 h2
  have n : NoTup (cutH (BoxF p q) H) := fun b xs e => by
    by_cases w : BoxF p q b
    · rw [cutH_in w] at e
      obtain ⟨o, e1, n⟩ := B.own w
      rw [e] at e1
      exact n xs (Option.some.inj e1).symm
    · rw [cutH_out w] at e; cases e
  have n2 : NoTup (upd hnil Pt (.tbl #[])) := noTup_one fun xs e => by cases e
  have ap : Apart (upd hnil Pt (.tbl #[])) (cutH (BoxF p q) H) := fun b => by
    by_cases z : b = Pt
    · exact .inr (by rw [z, cutH_out nF])
    · exact .inl (by rw [upd_ne z]; rfl)
  have sP : Same (upd hnil Pt (.tbl #[])) H := fun b o e => by
    by_cases z : b = Pt
    · rw [z, upd_same] at e; cases e; rw [z]; exact hP
    · rw [upd_ne z] at e; cases e
  refine ⟨hnil, hor (upd hnil Pt (.tbl #[])) (cutH (BoxF p q) H), same_nil, hor_sub sP cutH_sub, apart_nil, noTup_hor n2 n, upd hnil Pt (.tbl #[]), cutH (BoxF p q) H, same_hor_l, same_hor_r ap, ap, ⟨#[], upd_same, ?_, fun pos cv e => ?_⟩, cutH (BoxF p q) H, hnil, Same.refl _, same_nil, fun _ => .inr rfl, ⟨p, q, rfl, B.cut⟩, trivial⟩
  · exact trivial
  · cases e
theorem dt_i {n : Nat} {i : Int} : Dt n (.int i) := by cases n <;> trivial
theorem dt_b {n : Nat} {i : Bool} : Dt n (.bool i) := by cases n <;> trivial
theorem dt_o {n : Nat} (o : Option Int) : Dt n (bD o) := by cases o <;> cases n <;> trivial
theorem dt_is {n : Nat} {ns : List Int} (h : ns.length ≤ 1000) : Dt (n + 1) (.list (ns.map .int)) := ⟨by simpa using h, fun d hd => by
  obtain ⟨i, _, rfl⟩ := List.mem_map.mp hd
  exact dt_i⟩
theorem dt_shown {R : Rul} {S : LSt} (ok : R.Ok) (w : Wf R.lines.length [] S) : Dt 8 (shownP S) := by
  have h1 := ok.one
  have h4 := ok.four
  have hr := w.rl
  have fl := flat_len w h1
  have h20 : (tasksOf S).length ≤ 20 := Nat.le_trans (List.length_filter_le _ _) (by decide)
  refine ⟨by simp, fun d hd => ?_⟩
  simp only [List.mem_cons, List.not_mem_nil, or_false] at hd
  rcases hd with rfl | rfl | rfl
  · refine ⟨by rw [List.length_map]; omega, fun d hd => ?_⟩
    obtain ⟨xs, hx, rfl⟩ := List.mem_map.mp hd
    have : xs.length ≤ S.rows.flatten.length := (List.sublist_flatten_of_mem hx).length_le
    exact dt_is (by omega)
  · exact dt_i
  · refine ⟨by rw [List.length_map]; omega, fun d hd => ?_⟩
    obtain ⟨t, ht, rfl⟩ := List.mem_map.mp hd
    have hk := (w.key t _ (tasks_card ht)).2.2.2
    refine ⟨by simp, fun d hd => ?_⟩
    simp only [List.mem_cons, List.not_mem_nil, or_false] at hd
    rcases hd with rfl | rfl | rfl
    · exact dt_i
    · refine ⟨by simp, fun d hd => ?_⟩
      simp only [List.mem_cons, List.not_mem_nil, or_false] at hd
      rcases hd with rfl | rfl | rfl | rfl
      · exact dt_i
      · exact dt_i
      · exact dt_i
      · exact dt_b
    · exact dt_is (by omega)
def spL (K : PySem.W.Frag) (Pt : Addr) : Sp := sp1 fun x H Q _ => ∃ (s : Addr) (ns : List Int), x = .ref s ∧ SqL K H s (ns.map V.int) ∧ ns.length ≤ 1000 ∧ (∀ z ∈ ns, Builtin.Int.intBits z ≤ 1048576) ∧ H Pt = some (.tbl #[]) ∧ ∀ H', Q (.bl true) H'
section
variable {P : Program} {w : World} {K : PySem.W.Frag} {mg : Str → Option Value} {base : Heap} {a : Adr}
section
variable {Pl : List As} {p q u : Addr} {R : Rul} {S : LSt} {Q : VK} {E : XK} {s : Str} {t : Int}
theorem e_ldeed (F : List As) [im : Imp Pl (At (.ref q) (LinX a R S) :: At (.ref p) BoxX :: F)] (k : ∀ u s t, DeedOk S s t → Ent (At (.ref u) (KTup [.str s, .int t]) :: At (.ref q) (LinX a R S) :: At (.ref p) BoxX :: F) (fun H => Q (.ref u) H)) : Ent Pl (fun H => sp_law_deed K a [.ref p, .ref q] H Q E) := fun H s =>
  ⟨_, _, rfl, p, q, R, S, F, rfl, rfl, s.imp im.imp, k⟩
theorem e_ldone (F : List As) [im : Imp Pl (At (.ref q) (LinX a R S) :: F)] (d : DeedOk S s t) (k : Ent (At (.ref q) (LinX a R (afterD R S s t)) :: F) (fun H => Q (bV (toldO R S s)) H)) : Ent Pl (fun H => sp_law_done K a [.ref q, .str s, .int t] H Q E) := fun H z =>
  ⟨_, _, _, rfl, q, R, S, s, t, F, rfl, rfl, rfl, z.imp im.imp, d, k⟩
theorem e_lshown (F : List As) [im : Imp Pl (At (.ref q) (LinX a R S) :: F)] (k : ∀ v, Ent (At v (PDat (shownP S)) :: At (.ref q) (LinX a R S) :: F) (fun H => Q v H)) : Ent Pl (fun H => sp_law_shown K a [.ref q] H Q E) := fun H z =>
  ⟨_, rfl, q, R, S, F, rfl, z.imp im.imp, k⟩
theorem e_lref {Pt : Addr} (F : List As) [im : Imp Pl (At (.ref q) (LinX a R S) :: At (.ref p) BoxX :: At (.int 60) (TabX Pt (("_law_is_refused" ++ ".<locals>.") ++ "<lambda>")) :: F)]
    (k : Ent (At (.ref q) (LinX a R S) :: At (.ref p) BoxX :: At (.int 60) (TabX Pt (("_law_is_refused" ++ ".<locals>.") ++ "<lambda>")) :: F) (fun H => Q (.bl true) H)) : Ent Pl (fun H => sp_law_is_refused Pt K a [.ref p, .ref q] H Q E) := fun H z => ⟨_, _, rfl, p, q, R, S, F, rfl, rfl, z.imp im.imp, k⟩
end
theorem okF_law (T : Txt K mg a) {fd : FuncData} (F : Fun K "law" "law" s_law a.law fd) {Pw : Addr} (TBw : LamX.TabB base mg a.cd_law_is_refused Pw) : FnOk P w K mg base CX0 35 a.law fd ["_law_script"] (spL K Pw) := by
  refine F.ok sc_law (fun vs H Q E h => sp1_len h) (fun cdv A outer s H vs Q E hr h => ?_)
  refine ⟨_, (pss_cons (ps_set (i := 1) sc_law.nd rfl (Or.inl rfl) (q_call (ok_law_begun T) (hr.mono (by decide)) pass0 (pa_cons (pv 0) pa_nil)))
 (pss_cons (ps_set (i := 2) sc_law.nd rfl (Or.inl rfl) (q_call (ok_law_rules T) (hr.mono (by decide)) pass0 (pa_cons (pv 1) pa_nil)))
 (pss_cons (ps_par (i := 3) (j := 4) (by rfl) sc_law.nd rfl rfl (by decide) rfl rfl (pa_cons (q_make (ok_Lines__init T) (hr.mono (by decide)) pass0 (pa_cons (pv 2) pa_nil)) (pa_cons (q_make (ok_Lines__init T) (hr.mono (by decide)) pass0 (pa_cons (pv 2) pa_nil)) pa_nil)) (by rfl))
 (pss_cons (ps_for PassesOwn.never rfl (pi_range1 rfl T.z_range (pa_cons (q_call (ok_law_take T) (hr.mono (by decide)) pass0 (pa_cons (pv 1) (pa_cons (pe_ix ix_list (pe_lst (pa_cons pe_int (pa_cons pe_int pa_nil))) (q_call (ok_law_take T) (hr.mono (by decide)) pass0 (pa_cons (pv 1) (pa_cons pe_int pa_nil))) (fun _ _ => rfl)) pa_nil))) pa_nil)) (pg_name (i := 5) sc_law.nd rfl (Or.inl rfl))
 (pss_cons (ps_asg (q_call (ok_law_deed T) (hr.mono (by decide)) pass0 (pa_cons (pv 1) (pa_cons (pv 3) pa_nil))) (pg_tup (n := 2) rfl (pgs_cons (pg_name (i := 6) sc_law.nd rfl (Or.inl rfl)) (pgs_cons (pg_name (i := 7) sc_law.nd rfl (Or.inl rfl)) pgs_nil))))
 (pss_cons (ps_if (pt_not (pt_val (q_call (ok_law_alike T) (hr.mono (by decide)) pass0 (pa_cons (q_call (ok_law_done T) (hr.mono (by decide)) pass0 (pa_cons (pv 3) (pa_cons (pv 6) (pa_cons (pv 7) pa_nil)))) (pa_cons (q_call (ok_law_done T) (hr.mono (by decide)) pass0 (pa_cons (pv 4) (pa_cons (pv 6) (pa_cons (pv 7) pa_nil)))) pa_nil)))))
 (pss_one (ps_ret pe_bl))
 pss_nil)
 (pss_cons (ps_if (PW.pt (pw_and (pt_cmpR op_eq (q_call (ok_law_take T) (hr.mono (by decide)) pass0 (pa_cons (pv 1) (pa_cons pe_int pa_nil))) pe_int (nomark _)) (pw_and1 (pt_not (pt_val (q_call (ok_law_is_refused T TBw) (hr.mono (by decide)) pass0 (pa_cons (pv 1) (pa_cons (pv 3) pa_nil))))))))
 (pss_one (ps_ret pe_bl))
 pss_nil)
 (pss_one (ps_if (pt_not (pt_val (q_call (ok_law_alike T) (hr.mono (by decide)) pass0 (pa_cons (q_call (ok_law_shown T) (hr.mono (by decide)) pass0 (pa_cons (pv 3) pa_nil)) (pa_cons (q_call (ok_law_shown T) (hr.mono (by decide)) pass0 (pa_cons (pv 4) pa_nil)) pa_nil)))))
 (pss_one (ps_ret pe_bl))
 pss_nil))))))
 (pss_one (ps_ret pe_bl)))))), ?_⟩
  try dsimp only [cxOf, Cx.nox, Cx.wish, List.map_cons, List.map_nil]
  obtain ⟨x, rfl, h⟩ := h
  rw [show L2.start N_law [x] = [some x, none, none, none, none, none, none, none] from rfl]
  obtain ⟨sa, ns, rfl, hs, hn, hb, hP, k⟩ := h
  fail "go"
  refine sp1_mk ⟨sa, ns, rfl, hs, hn, hb, fun p q H1 np nq s1 B1 => ?_⟩
  have p1 : Pw ≠ p := fun z => by rw [z, np] at hP; cases hP
  have p2 : Pw ≠ q := fun z => by rw [z, nq] at hP; cases hP
  refine Ent.atG (sat_boxT (u := ("_law_is_refused" ++ ".<locals>.") ++ "<lambda>") B1 (s1 _ _ hP) p1 p2) ?_
  fail "egs"
  refine e_rules fun ra R ok => ?_
  fail "egs"
  refine e_make ok fun q1 => ?_
  fail "egs"
  refine e_make ok fun q2 => ?_
  fail "egs"
  refine e_lst (by show 2 ≤ 1000; decide) fun p3 => ?_
  fail "egs"
  refine e_take (by decide) (by decide) fun r0 r1 r2 => ?_
  fail "egs"
  obtain ⟨m, hm, hm1, hm2⟩ : ∃ m : Int, atI [V.int 20, V.int 61] r0 = some (.int m) ∧ 0 < m ∧ m ≤ 100 := by
    rcases (by omega : r0 = 0 ∨ r0 = 1) with rfl | rfl
    · exact ⟨20, rfl, by decide, by decide⟩
    · exact ⟨61, rfl, by decide, by decide⟩
  refine e_ixL hm ?_
  fail "egs"
  refine e_take hm1 (by omega) fun n n0 n1 => ?_
  fail "egs"
  refine e_range1 (by omega) ?_
  refine Ent.to (Q := At (.ref q1) (LinX a R (LSt.begin R)) :: At (.ref q2) (LinX a R (LSt.begin R)) :: At (.ref p) BoxX :: At (.int 60) (TabX Pw (("_law_is_refused" ++ ".<locals>.") ++ "<lambda>")) :: []) ?_
  refine e_forR0 (n := n.toNat) (fun _ σ P' => ∃ (S : LSt) (v5 v6 v7 : Option V), σ = [some (.ref sa), some (.ref p), some (.ref ra), some (.ref q1), some (.ref q2), v5, v6, v7] ∧ P' = At (.ref q1) (LinX a R S) :: At (.ref q2) (LinX a R S) :: At (.ref p) BoxX :: At (.int 60) (TabX Pw (("_law_is_refused" ++ ".<locals>.") ++ "<lambda>")) :: []) ⟨LSt.begin R, _, _, _, rfl, rfl⟩ ?_ ?_
  · rintro tn σ P' htn ⟨S, v5, v6, v7, rfl, rfl⟩
    fail "egs"
    refine e_ldeed (R := R) (S := S) (At (.ref q2) (LinX a R S) :: At (.int 60) (TabX Pw (("_law_is_refused" ++ ".<locals>.") ++ "<lambda>")) :: []) fun u s t d => ?_
    fail "egs"
    refine e_ldone (R := R) (S := S) (At (.ref q2) (LinX a R S) :: At (.ref p) BoxX :: At (.int 60) (TabX Pw (("_law_is_refused" ++ ".<locals>.") ++ "<lambda>")) :: []) d ?_
    fail "egs"
    refine e_ldone (R := R) (S := S) (At (.ref q1) (LinX a R (afterD R S s t)) :: At (.ref p) BoxX :: At (.int 60) (TabX Pw (("_law_is_refused" ++ ".<locals>.") ++ "<lambda>")) :: []) d ?_
    fail "egs"
    refine e_alike (bD (toldO R S s)) (dt_o _) ?_
    fail "egs"
    generalize afterD R S s t = S2
    refine e_kdOk (v := .ref q1) inferInstance fun ok2 w_ => ?_
    refine e_take (by decide) (by decide) fun z z0 z1 => ?_
    fail "egs"
    refine e_ifD (fun _ => ?_) (fun _ => ?_)
    · fail "egs"
      refine e_lref (R := R) (S := S2) (At (.ref q2) (LinX a R S2) :: []) ?_
      fail "egs"
      refine e_lshown (R := R) (S := S2) (At (.ref q2) (LinX a R S2) :: At (.ref p) BoxX :: At (.int 60) (TabX Pw (("_law_is_refused" ++ ".<locals>.") ++ "<lambda>")) :: []) fun v1 => ?_
      fail "egs"
      refine e_lshown (R := R) (S := S2) (At v1 (PDat (shownP S2)) :: At (.ref q1) (LinX a R S2) :: At (.ref p) BoxX :: At (.int 60) (TabX Pw (("_law_is_refused" ++ ".<locals>.") ++ "<lambda>")) :: []) fun v2 => ?_
      fail "egs"
      refine e_alike (shownP S2) (dt_shown ok2 w_) ?_
      fail "egs"
      refine e_nx ⟨_, ⟨S2, _, _, _, rfl, rfl⟩, inferInstance⟩
    · fail "egs"
      refine e_lshown (R := R) (S := S2) (At (.ref q2) (LinX a R S2) :: At (.ref p) BoxX :: At (.int 60) (TabX Pw (("_law_is_refused" ++ ".<locals>.") ++ "<lambda>")) :: []) fun v1 => ?_
      fail "egs"
      refine e_lshown (R := R) (S := S2) (At v1 (PDat (shownP S2)) :: At (.ref q1) (LinX a R S2) :: At (.ref p) BoxX :: At (.int 60) (TabX Pw (("_law_is_refused" ++ ".<locals>.") ++ "<lambda>")) :: []) fun v2 => ?_
      fail "egs"
      refine e_alike (shownP S2) (dt_shown ok2 w_) ?_
      fail "egs"
      refine e_nx ⟨_, ⟨S2, _, _, _, rfl, rfl⟩, inferInstance⟩
  · rintro σ P' ⟨S, v5, v6, v7, rfl, rfl⟩
    fail "egs"
    exact fun H _ => k H
end
end Qn

/-! the end. -/
namespace Qn
open PySem PySem.Spec PySem.Calls PyProof.Rows L2
theorem all_mk {l : PySem.W.OpenLaw} {w : World} {K : PySem.W.Frag} {h : Heap} {mg : Str → Option Value} {fa Pt_law_is_refused A_is_number A_is_line A_need_rules A_need_task A_Card__init A_Lines__init A_Lines_need_there A_Lines_lay A_Lines_come A_Lines_go A_Lines_wait A_Lines_wake A_Lines_boosted A_Lines_first A_Lines_boost_now A_Lines_run A_Lines_tick A_Lines_charge A_Lines_lines A_Lines_now A_Lines_card A_Lines_used A_Lines_tasks A_law_begun A_law_take A_law_alike A_law_told A_law_all A_law_rules A_law_deed A_law_done A_law_shown A_law_is_refused A_law A_Card A_Lines A_LineError A_BadRules A_BadRuns A_BadTask A_BadTasks A_BadText A_BadUntil A_NotThere A_Ready A_There A_Waits A_cd_law_is_refused : Addr} (X : K.In h) (G : h.Ns mainGlobals mg) (hfa : mg "law" = some (.ref fa))
    (e_Card : PySem.W.nsIn K mainGlobals "Card" = some (some (.ref A_Card)))
    (e_Lines : PySem.W.nsIn K mainGlobals "Lines" = some (some (.ref A_Lines)))
    (e_LineError : PySem.W.nsIn K mainGlobals "LineError" = some (some (.ref A_LineError)))
    (e_BadRules : PySem.W.nsIn K mainGlobals "BadRules" = some (some (.ref A_BadRules)))
    (e_BadRuns : PySem.W.nsIn K mainGlobals "BadRuns" = some (some (.ref A_BadRuns)))
    (e_BadTask : PySem.W.nsIn K mainGlobals "BadTask" = some (some (.ref A_BadTask)))
    (e_BadTasks : PySem.W.nsIn K mainGlobals "BadTasks" = some (some (.ref A_BadTasks)))
    (e_BadText : PySem.W.nsIn K mainGlobals "BadText" = some (some (.ref A_BadText)))
    (e_BadUntil : PySem.W.nsIn K mainGlobals "BadUntil" = some (some (.ref A_BadUntil)))
    (e_NotThere : PySem.W.nsIn K mainGlobals "NotThere" = some (some (.ref A_NotThere)))
    (e_Ready : PySem.W.nsIn K mainGlobals "Ready" = some (some (.ref A_Ready)))
    (e_There : PySem.W.nsIn K mainGlobals "There" = some (some (.ref A_There)))
    (e_Waits : PySem.W.nsIn K mainGlobals "Waits" = some (some (.ref A_Waits)))
    {od0 an0 : Option Addr} {sl0 : Array (Option Value)} {oc0 kV0 dc0 pm0 cd0 ct0 : Value}
    (a0 : PySem.W.nsIn K mainGlobals "is_number" = some (some (.ref A_is_number)))
    (l0 : K.lookup A_is_number = some ⟨oc0, od0, .func (PySem.W.fnOf "is_number" "is_number" (defArgs s_is_number) (defBody s_is_number) (defScope s_is_number) .none kV0 dc0 pm0 an0 cd0 ct0), sl0⟩)
    (c0 : PySem.W.codeIn K cd0 "is_number" = true)
    (k0 : PySem.W.keepIn K (.ref A_is_number) = true)
    {od1 an1 : Option Addr} {sl1 : Array (Option Value)} {oc1 kV1 dc1 pm1 cd1 ct1 : Value}
    (a1 : PySem.W.nsIn K mainGlobals "is_line" = some (some (.ref A_is_line)))
    (l1 : K.lookup A_is_line = some ⟨oc1, od1, .func (PySem.W.fnOf "is_line" "is_line" (defArgs s_is_line) (defBody s_is_line) (defScope s_is_line) .none kV1 dc1 pm1 an1 cd1 ct1), sl1⟩)
    (c1 : PySem.W.codeIn K cd1 "is_line" = true)
    (k1 : PySem.W.keepIn K (.ref A_is_line) = true)
    {od2 an2 : Option Addr} {sl2 : Array (Option Value)} {oc2 kV2 dc2 pm2 cd2 ct2 : Value}
    (a2 : PySem.W.nsIn K mainGlobals "need_rules" = some (some (.ref A_need_rules)))
    (l2 : K.lookup A_need_rules = some ⟨oc2, od2, .func (PySem.W.fnOf "need_rules" "need_rules" (defArgs s_need_rules) (defBody s_need_rules) (defScope s_need_rules) .none kV2 dc2 pm2 an2 cd2 ct2), sl2⟩)
    (c2 : PySem.W.codeIn K cd2 "need_rules" = true)
    (k2 : PySem.W.keepIn K (.ref A_need_rules) = true)
    {od3 an3 : Option Addr} {sl3 : Array (Option Value)} {oc3 kV3 dc3 pm3 cd3 ct3 : Value}
    (a3 : PySem.W.nsIn K mainGlobals "need_task" = some (some (.ref A_need_task)))
    (l3 : K.lookup A_need_task = some ⟨oc3, od3, .func (PySem.W.fnOf "need_task" "need_task" (defArgs s_need_task) (defBody s_need_task) (defScope s_need_task) .none kV3 dc3 pm3 an3 cd3 ct3), sl3⟩)
    (c3 : PySem.W.codeIn K cd3 "need_task" = true)
    (k3 : PySem.W.keepIn K (.ref A_need_task) = true)
    {od4 an4 : Option Addr} {sl4 : Array (Option Value)} {oc4 kV4 dc4 pm4 cd4 ct4 : Value}
    (a4 : PySem.W.findIn K (.ref A_Card) "__init__" = some (some (.ref A_Card__init)))
    (i4 : PySem.W.isFn K (.ref A_Card__init) = true)
    (l4 : K.lookup A_Card__init = some ⟨oc4, od4, .func (PySem.W.fnOf "__init__" "Card.__init__" (defArgs s_Card__init) (defBody s_Card__init) (defScope s_Card__init) .none kV4 dc4 pm4 an4 cd4 ct4), sl4⟩)
    (c4 : PySem.W.codeIn K cd4 "Card.__init__" = true)
    (k4 : PySem.W.keepIn K (.ref A_Card__init) = true)
    {od5 an5 : Option Addr} {sl5 : Array (Option Value)} {oc5 kV5 dc5 pm5 cd5 ct5 : Value}
    (a5 : PySem.W.findIn K (.ref A_Lines) "__init__" = some (some (.ref A_Lines__init)))
    (i5 : PySem.W.isFn K (.ref A_Lines__init) = true)
    (l5 : K.lookup A_Lines__init = some ⟨oc5, od5, .func (PySem.W.fnOf "__init__" "Lines.__init__" (defArgs s_Lines__init) (defBody s_Lines__init) (defScope s_Lines__init) .none kV5 dc5 pm5 an5 cd5 ct5), sl5⟩)
    (c5 : PySem.W.codeIn K cd5 "Lines.__init__" = true)
    (k5 : PySem.W.keepIn K (.ref A_Lines__init) = true)
    {od6 an6 : Option Addr} {sl6 : Array (Option Value)} {oc6 kV6 dc6 pm6 cd6 ct6 : Value}
    (a6 : PySem.W.findIn K (.ref A_Lines) "need_there" = some (some (.ref A_Lines_need_there)))
    (i6 : PySem.W.isFn K (.ref A_Lines_need_there) = true)
    (l6 : K.lookup A_Lines_need_there = some ⟨oc6, od6, .func (PySem.W.fnOf "need_there" "Lines.need_there" (defArgs s_Lines_need_there) (defBody s_Lines_need_there) (defScope s_Lines_need_there) .none kV6 dc6 pm6 an6 cd6 ct6), sl6⟩)
    (c6 : PySem.W.codeIn K cd6 "Lines.need_there" = true)
    (k6 : PySem.W.keepIn K (.ref A_Lines_need_there) = true)
    {od7 an7 : Option Addr} {sl7 : Array (Option Value)} {oc7 kV7 dc7 pm7 cd7 ct7 : Value}
    (a7 : PySem.W.findIn K (.ref A_Lines) "lay" = some (some (.ref A_Lines_lay)))
    (i7 : PySem.W.isFn K (.ref A_Lines_lay) = true)
    (l7 : K.lookup A_Lines_lay = some ⟨oc7, od7, .func (PySem.W.fnOf "lay" "Lines.lay" (defArgs s_Lines_lay) (defBody s_Lines_lay) (defScope s_Lines_lay) .none kV7 dc7 pm7 an7 cd7 ct7), sl7⟩)
    (c7 : PySem.W.codeIn K cd7 "Lines.lay" = true)
    (k7 : PySem.W.keepIn K (.ref A_Lines_lay) = true)
    {od8 an8 : Option Addr} {sl8 : Array (Option Value)} {oc8 kV8 dc8 pm8 cd8 ct8 : Value}
    (a8 : PySem.W.findIn K (.ref A_Lines) "come" = some (some (.ref A_Lines_come)))
    (i8 : PySem.W.isFn K (.ref A_Lines_come) = true)
    (l8 : K.lookup A_Lines_come = some ⟨oc8, od8, .func (PySem.W.fnOf "come" "Lines.come" (defArgs s_Lines_come) (defBody s_Lines_come) (defScope s_Lines_come) .none kV8 dc8 pm8 an8 cd8 ct8), sl8⟩)
    (c8 : PySem.W.codeIn K cd8 "Lines.come" = true)
    (k8 : PySem.W.keepIn K (.ref A_Lines_come) = true)
    {od9 an9 : Option Addr} {sl9 : Array (Option Value)} {oc9 kV9 dc9 pm9 cd9 ct9 : Value}
    (a9 : PySem.W.findIn K (.ref A_Lines) "go" = some (some (.ref A_Lines_go)))
    (i9 : PySem.W.isFn K (.ref A_Lines_go) = true)
    (l9 : K.lookup A_Lines_go = some ⟨oc9, od9, .func (PySem.W.fnOf "go" "Lines.go" (defArgs s_Lines_go) (defBody s_Lines_go) (defScope s_Lines_go) .none kV9 dc9 pm9 an9 cd9 ct9), sl9⟩)
    (c9 : PySem.W.codeIn K cd9 "Lines.go" = true)
    (k9 : PySem.W.keepIn K (.ref A_Lines_go) = true)
    {od10 an10 : Option Addr} {sl10 : Array (Option Value)} {oc10 kV10 dc10 pm10 cd10 ct10 : Value}
    (a10 : PySem.W.findIn K (.ref A_Lines) "wait" = some (some (.ref A_Lines_wait)))
    (i10 : PySem.W.isFn K (.ref A_Lines_wait) = true)
    (l10 : K.lookup A_Lines_wait = some ⟨oc10, od10, .func (PySem.W.fnOf "wait" "Lines.wait" (defArgs s_Lines_wait) (defBody s_Lines_wait) (defScope s_Lines_wait) .none kV10 dc10 pm10 an10 cd10 ct10), sl10⟩)
    (c10 : PySem.W.codeIn K cd10 "Lines.wait" = true)
    (k10 : PySem.W.keepIn K (.ref A_Lines_wait) = true)
    {od11 an11 : Option Addr} {sl11 : Array (Option Value)} {oc11 kV11 dc11 pm11 cd11 ct11 : Value}
    (a11 : PySem.W.findIn K (.ref A_Lines) "wake" = some (some (.ref A_Lines_wake)))
    (i11 : PySem.W.isFn K (.ref A_Lines_wake) = true)
    (l11 : K.lookup A_Lines_wake = some ⟨oc11, od11, .func (PySem.W.fnOf "wake" "Lines.wake" (defArgs s_Lines_wake) (defBody s_Lines_wake) (defScope s_Lines_wake) .none kV11 dc11 pm11 an11 cd11 ct11), sl11⟩)
    (c11 : PySem.W.codeIn K cd11 "Lines.wake" = true)
    (k11 : PySem.W.keepIn K (.ref A_Lines_wake) = true)
    {od12 an12 : Option Addr} {sl12 : Array (Option Value)} {oc12 kV12 dc12 pm12 cd12 ct12 : Value}
    (a12 : PySem.W.findIn K (.ref A_Lines) "boosted" = some (some (.ref A_Lines_boosted)))
    (i12 : PySem.W.isFn K (.ref A_Lines_boosted) = true)
    (l12 : K.lookup A_Lines_boosted = some ⟨oc12, od12, .func (PySem.W.fnOf "boosted" "Lines.boosted" (defArgs s_Lines_boosted) (defBody s_Lines_boosted) (defScope s_Lines_boosted) .none kV12 dc12 pm12 an12 cd12 ct12), sl12⟩)
    (c12 : PySem.W.codeIn K cd12 "Lines.boosted" = true)
    (k12 : PySem.W.keepIn K (.ref A_Lines_boosted) = true)
    {od13 an13 : Option Addr} {sl13 : Array (Option Value)} {oc13 kV13 dc13 pm13 cd13 ct13 : Value}
    (a13 : PySem.W.findIn K (.ref A_Lines) "first" = some (some (.ref A_Lines_first)))
    (i13 : PySem.W.isFn K (.ref A_Lines_first) = true)
    (l13 : K.lookup A_Lines_first = some ⟨oc13, od13, .func (PySem.W.fnOf "first" "Lines.first" (defArgs s_Lines_first) (defBody s_Lines_first) (defScope s_Lines_first) .none kV13 dc13 pm13 an13 cd13 ct13), sl13⟩)
    (c13 : PySem.W.codeIn K cd13 "Lines.first" = true)
    (k13 : PySem.W.keepIn K (.ref A_Lines_first) = true)
    {od14 an14 : Option Addr} {sl14 : Array (Option Value)} {oc14 kV14 dc14 pm14 cd14 ct14 : Value}
    (a14 : PySem.W.findIn K (.ref A_Lines) "boost_now" = some (some (.ref A_Lines_boost_now)))
    (i14 : PySem.W.isFn K (.ref A_Lines_boost_now) = true)
    (l14 : K.lookup A_Lines_boost_now = some ⟨oc14, od14, .func (PySem.W.fnOf "boost_now" "Lines.boost_now" (defArgs s_Lines_boost_now) (defBody s_Lines_boost_now) (defScope s_Lines_boost_now) .none kV14 dc14 pm14 an14 cd14 ct14), sl14⟩)
    (c14 : PySem.W.codeIn K cd14 "Lines.boost_now" = true)
    (k14 : PySem.W.keepIn K (.ref A_Lines_boost_now) = true)
    {od15 an15 : Option Addr} {sl15 : Array (Option Value)} {oc15 kV15 dc15 pm15 cd15 ct15 : Value}
    (a15 : PySem.W.findIn K (.ref A_Lines) "run" = some (some (.ref A_Lines_run)))
    (i15 : PySem.W.isFn K (.ref A_Lines_run) = true)
    (l15 : K.lookup A_Lines_run = some ⟨oc15, od15, .func (PySem.W.fnOf "run" "Lines.run" (defArgs s_Lines_run) (defBody s_Lines_run) (defScope s_Lines_run) .none kV15 dc15 pm15 an15 cd15 ct15), sl15⟩)
    (c15 : PySem.W.codeIn K cd15 "Lines.run" = true)
    (k15 : PySem.W.keepIn K (.ref A_Lines_run) = true)
    {od16 an16 : Option Addr} {sl16 : Array (Option Value)} {oc16 kV16 dc16 pm16 cd16 ct16 : Value}
    (a16 : PySem.W.findIn K (.ref A_Lines) "tick" = some (some (.ref A_Lines_tick)))
    (i16 : PySem.W.isFn K (.ref A_Lines_tick) = true)
    (l16 : K.lookup A_Lines_tick = some ⟨oc16, od16, .func (PySem.W.fnOf "tick" "Lines.tick" (defArgs s_Lines_tick) (defBody s_Lines_tick) (defScope s_Lines_tick) .none kV16 dc16 pm16 an16 cd16 ct16), sl16⟩)
    (c16 : PySem.W.codeIn K cd16 "Lines.tick" = true)
    (k16 : PySem.W.keepIn K (.ref A_Lines_tick) = true)
    {od17 an17 : Option Addr} {sl17 : Array (Option Value)} {oc17 kV17 dc17 pm17 cd17 ct17 : Value}
    (a17 : PySem.W.findIn K (.ref A_Lines) "charge" = some (some (.ref A_Lines_charge)))
    (i17 : PySem.W.isFn K (.ref A_Lines_charge) = true)
    (l17 : K.lookup A_Lines_charge = some ⟨oc17, od17, .func (PySem.W.fnOf "charge" "Lines.charge" (defArgs s_Lines_charge) (defBody s_Lines_charge) (defScope s_Lines_charge) .none kV17 dc17 pm17 an17 cd17 ct17), sl17⟩)
    (c17 : PySem.W.codeIn K cd17 "Lines.charge" = true)
    (k17 : PySem.W.keepIn K (.ref A_Lines_charge) = true)
    {od18 an18 : Option Addr} {sl18 : Array (Option Value)} {oc18 kV18 dc18 pm18 cd18 ct18 : Value}
    (a18 : PySem.W.findIn K (.ref A_Lines) "lines" = some (some (.ref A_Lines_lines)))
    (i18 : PySem.W.isFn K (.ref A_Lines_lines) = true)
    (l18 : K.lookup A_Lines_lines = some ⟨oc18, od18, .func (PySem.W.fnOf "lines" "Lines.lines" (defArgs s_Lines_lines) (defBody s_Lines_lines) (defScope s_Lines_lines) .none kV18 dc18 pm18 an18 cd18 ct18), sl18⟩)
    (c18 : PySem.W.codeIn K cd18 "Lines.lines" = true)
    (k18 : PySem.W.keepIn K (.ref A_Lines_lines) = true)
    {od19 an19 : Option Addr} {sl19 : Array (Option Value)} {oc19 kV19 dc19 pm19 cd19 ct19 : Value}
    (a19 : PySem.W.findIn K (.ref A_Lines) "now" = some (some (.ref A_Lines_now)))
    (i19 : PySem.W.isFn K (.ref A_Lines_now) = true)
    (l19 : K.lookup A_Lines_now = some ⟨oc19, od19, .func (PySem.W.fnOf "now" "Lines.now" (defArgs s_Lines_now) (defBody s_Lines_now) (defScope s_Lines_now) .none kV19 dc19 pm19 an19 cd19 ct19), sl19⟩)
    (c19 : PySem.W.codeIn K cd19 "Lines.now" = true)
    (k19 : PySem.W.keepIn K (.ref A_Lines_now) = true)
    {od20 an20 : Option Addr} {sl20 : Array (Option Value)} {oc20 kV20 dc20 pm20 cd20 ct20 : Value}
    (a20 : PySem.W.findIn K (.ref A_Lines) "card" = some (some (.ref A_Lines_card)))
    (i20 : PySem.W.isFn K (.ref A_Lines_card) = true)
    (l20 : K.lookup A_Lines_card = some ⟨oc20, od20, .func (PySem.W.fnOf "card" "Lines.card" (defArgs s_Lines_card) (defBody s_Lines_card) (defScope s_Lines_card) .none kV20 dc20 pm20 an20 cd20 ct20), sl20⟩)
    (c20 : PySem.W.codeIn K cd20 "Lines.card" = true)
    (k20 : PySem.W.keepIn K (.ref A_Lines_card) = true)
    {od21 an21 : Option Addr} {sl21 : Array (Option Value)} {oc21 kV21 dc21 pm21 cd21 ct21 : Value}
    (a21 : PySem.W.findIn K (.ref A_Lines) "used" = some (some (.ref A_Lines_used)))
    (i21 : PySem.W.isFn K (.ref A_Lines_used) = true)
    (l21 : K.lookup A_Lines_used = some ⟨oc21, od21, .func (PySem.W.fnOf "used" "Lines.used" (defArgs s_Lines_used) (defBody s_Lines_used) (defScope s_Lines_used) .none kV21 dc21 pm21 an21 cd21 ct21), sl21⟩)
    (c21 : PySem.W.codeIn K cd21 "Lines.used" = true)
    (k21 : PySem.W.keepIn K (.ref A_Lines_used) = true)
    {od22 an22 : Option Addr} {sl22 : Array (Option Value)} {oc22 kV22 dc22 pm22 cd22 ct22 : Value}
    (a22 : PySem.W.findIn K (.ref A_Lines) "tasks" = some (some (.ref A_Lines_tasks)))
    (i22 : PySem.W.isFn K (.ref A_Lines_tasks) = true)
    (l22 : K.lookup A_Lines_tasks = some ⟨oc22, od22, .func (PySem.W.fnOf "tasks" "Lines.tasks" (defArgs s_Lines_tasks) (defBody s_Lines_tasks) (defScope s_Lines_tasks) .none kV22 dc22 pm22 an22 cd22 ct22), sl22⟩)
    (c22 : PySem.W.codeIn K cd22 "Lines.tasks" = true)
    (k22 : PySem.W.keepIn K (.ref A_Lines_tasks) = true)
    {od23 an23 : Option Addr} {sl23 : Array (Option Value)} {oc23 kV23 dc23 pm23 cd23 ct23 : Value}
    (a23 : PySem.W.nsIn K mainGlobals "_law_begun" = some (some (.ref A_law_begun)))
    (l23 : K.lookup A_law_begun = some ⟨oc23, od23, .func (PySem.W.fnOf "_law_begun" "_law_begun" (defArgs s_law_begun) (defBody s_law_begun) (defScope s_law_begun) .none kV23 dc23 pm23 an23 cd23 ct23), sl23⟩)
    (c23 : PySem.W.codeIn K cd23 "_law_begun" = true)
    (k23 : PySem.W.keepIn K (.ref A_law_begun) = true)
    {od24 an24 : Option Addr} {sl24 : Array (Option Value)} {oc24 kV24 dc24 pm24 cd24 ct24 : Value}
    (a24 : PySem.W.nsIn K mainGlobals "_law_take" = some (some (.ref A_law_take)))
    (l24 : K.lookup A_law_take = some ⟨oc24, od24, .func (PySem.W.fnOf "_law_take" "_law_take" (defArgs s_law_take) (defBody s_law_take) (defScope s_law_take) .none kV24 dc24 pm24 an24 cd24 ct24), sl24⟩)
    (c24 : PySem.W.codeIn K cd24 "_law_take" = true)
    (k24 : PySem.W.keepIn K (.ref A_law_take) = true)
    {od25 an25 : Option Addr} {sl25 : Array (Option Value)} {oc25 kV25 dc25 pm25 cd25 ct25 : Value}
    (a25 : PySem.W.nsIn K mainGlobals "_law_alike" = some (some (.ref A_law_alike)))
    (l25 : K.lookup A_law_alike = some ⟨oc25, od25, .func (PySem.W.fnOf "_law_alike" "_law_alike" (defArgs s_law_alike) (defBody s_law_alike) (defScope s_law_alike) .none kV25 dc25 pm25 an25 cd25 ct25), sl25⟩)
    (c25 : PySem.W.codeIn K cd25 "_law_alike" = true)
    (k25 : PySem.W.keepIn K (.ref A_law_alike) = true)
    {od26 an26 : Option Addr} {sl26 : Array (Option Value)} {oc26 kV26 dc26 pm26 cd26 ct26 : Value}
    (a26 : PySem.W.nsIn K mainGlobals "_law_told" = some (some (.ref A_law_told)))
    (l26 : K.lookup A_law_told = some ⟨oc26, od26, .func (PySem.W.fnOf "_law_told" "_law_told" (defArgs s_law_told) (defBody s_law_told) (defScope s_law_told) .none kV26 dc26 pm26 an26 cd26 ct26), sl26⟩)
    (c26 : PySem.W.codeIn K cd26 "_law_told" = true)
    (k26 : PySem.W.keepIn K (.ref A_law_told) = true)
    {od27 an27 : Option Addr} {sl27 : Array (Option Value)} {oc27 kV27 dc27 pm27 cd27 ct27 : Value}
    (a27 : PySem.W.nsIn K mainGlobals "_law_all" = some (some (.ref A_law_all)))
    (l27 : K.lookup A_law_all = some ⟨oc27, od27, .func (PySem.W.fnOf "_law_all" "_law_all" (defArgs s_law_all) (defBody s_law_all) (defScope s_law_all) .none kV27 dc27 pm27 an27 cd27 ct27), sl27⟩)
    (c27 : PySem.W.codeIn K cd27 "_law_all" = true)
    (k27 : PySem.W.keepIn K (.ref A_law_all) = true)
    {od28 an28 : Option Addr} {sl28 : Array (Option Value)} {oc28 kV28 dc28 pm28 cd28 ct28 : Value}
    (a28 : PySem.W.nsIn K mainGlobals "_law_rules" = some (some (.ref A_law_rules)))
    (l28 : K.lookup A_law_rules = some ⟨oc28, od28, .func (PySem.W.fnOf "_law_rules" "_law_rules" (defArgs s_law_rules) (defBody s_law_rules) (defScope s_law_rules) .none kV28 dc28 pm28 an28 cd28 ct28), sl28⟩)
    (c28 : PySem.W.codeIn K cd28 "_law_rules" = true)
    (k28 : PySem.W.keepIn K (.ref A_law_rules) = true)
    {od29 an29 : Option Addr} {sl29 : Array (Option Value)} {oc29 kV29 dc29 pm29 cd29 ct29 : Value}
    (a29 : PySem.W.nsIn K mainGlobals "_law_deed" = some (some (.ref A_law_deed)))
    (l29 : K.lookup A_law_deed = some ⟨oc29, od29, .func (PySem.W.fnOf "_law_deed" "_law_deed" (defArgs s_law_deed) (defBody s_law_deed) (defScope s_law_deed) .none kV29 dc29 pm29 an29 cd29 ct29), sl29⟩)
    (c29 : PySem.W.codeIn K cd29 "_law_deed" = true)
    (k29 : PySem.W.keepIn K (.ref A_law_deed) = true)
    {od30 an30 : Option Addr} {sl30 : Array (Option Value)} {oc30 kV30 dc30 pm30 cd30 ct30 : Value}
    (a30 : PySem.W.nsIn K mainGlobals "_law_done" = some (some (.ref A_law_done)))
    (l30 : K.lookup A_law_done = some ⟨oc30, od30, .func (PySem.W.fnOf "_law_done" "_law_done" (defArgs s_law_done) (defBody s_law_done) (defScope s_law_done) .none kV30 dc30 pm30 an30 cd30 ct30), sl30⟩)
    (c30 : PySem.W.codeIn K cd30 "_law_done" = true)
    (k30 : PySem.W.keepIn K (.ref A_law_done) = true)
    {od31 an31 : Option Addr} {sl31 : Array (Option Value)} {oc31 kV31 dc31 pm31 cd31 ct31 : Value}
    (a31 : PySem.W.nsIn K mainGlobals "_law_shown" = some (some (.ref A_law_shown)))
    (l31 : K.lookup A_law_shown = some ⟨oc31, od31, .func (PySem.W.fnOf "_law_shown" "_law_shown" (defArgs s_law_shown) (defBody s_law_shown) (defScope s_law_shown) .none kV31 dc31 pm31 an31 cd31 ct31), sl31⟩)
    (c31 : PySem.W.codeIn K cd31 "_law_shown" = true)
    (k31 : PySem.W.keepIn K (.ref A_law_shown) = true)
    {od32 an32 : Option Addr} {sl32 : Array (Option Value)} {oc32 kV32 dc32 pm32  ct32 : Value}
    (a32 : PySem.W.nsIn K mainGlobals "_law_is_refused" = some (some (.ref A_law_is_refused)))
    (l32 : K.lookup A_law_is_refused = some ⟨oc32, od32, .func (PySem.W.fnOf "_law_is_refused" "_law_is_refused" (defArgs s_law_is_refused) (defBody s_law_is_refused) (defScope s_law_is_refused) .none kV32 dc32 pm32 an32 (.ref A_cd_law_is_refused) ct32), sl32⟩)
    (c32 : PySem.W.codeIn K (.ref A_cd_law_is_refused) "_law_is_refused" = true)
    (k32 : PySem.W.keepIn K (.ref A_law_is_refused) = true)
    {od33 an33 : Option Addr} {sl33 : Array (Option Value)} {oc33 kV33 dc33 pm33 cd33 ct33 : Value}
    (a33 : PySem.W.nsIn K mainGlobals "law" = some (some (.ref A_law)))
    (l33 : K.lookup A_law = some ⟨oc33, od33, .func (PySem.W.fnOf "law" "law" (defArgs s_law) (defBody s_law) (defScope s_law) .none kV33 dc33 pm33 an33 cd33 ct33), sl33⟩)
    (c33 : PySem.W.codeIn K cd33 "law" = true)
    (k33 : PySem.W.keepIn K (.ref A_law) = true)
    (pg_Card : PySem.W.plainGet K A_Card Str.empty = true)
    (hd_Card : PySem.W.hasDictIn K A_Card = true)
    (po_Card : PySem.W.plainOver K A_Card = true)
    (sa_Card : PySem.W.findIn K (.ref A_Card) "__setattr__" = some (some (.builtin "object.__setattr__")))
    (mk_Card : PySem.W.makesIn K A_Card = true)
    (kc_Card : PySem.W.keepIn K (.ref A_Card) = true)
    (n_Card_line : PySem.W.findIn K (.ref A_Card) "line" = some none)
    (n_Card_quantum : PySem.W.findIn K (.ref A_Card) "quantum" = some none)
    (n_Card_share : PySem.W.findIn K (.ref A_Card) "share" = some none)
    (n_Card_is_ready : PySem.W.findIn K (.ref A_Card) "is_ready" = some none)
    (n_Card_spent : PySem.W.findIn K (.ref A_Card) "spent" = some none)
    (pg_Lines : PySem.W.plainGet K A_Lines Str.empty = true)
    (hd_Lines : PySem.W.hasDictIn K A_Lines = true)
    (po_Lines : PySem.W.plainOver K A_Lines = true)
    (sa_Lines : PySem.W.findIn K (.ref A_Lines) "__setattr__" = some (some (.builtin "object.__setattr__")))
    (mk_Lines : PySem.W.makesIn K A_Lines = true)
    (kc_Lines : PySem.W.keepIn K (.ref A_Lines) = true)
    (n_Lines_rules : PySem.W.findIn K (.ref A_Lines) "rules" = some none)
    (n_Lines_cards : PySem.W.findIn K (.ref A_Lines) "cards" = some none)
    (n_Lines_rows : PySem.W.findIn K (.ref A_Lines) "rows" = some none)
    (n_Lines_time : PySem.W.findIn K (.ref A_Lines) "time" = some none)
    (le1 : PySem.W.readsIn K A_LineError (.type "type") = true)
    (le2 : PySem.W.findCls K (.ref A_LineError) (.type "type") "__init__" = some (.val (.builtin "ValueError.__init__")))
    (le3 : PySem.W.specialIn K (.ref A_LineError) "__getattribute__" = some (some (.builtin "type.__getattribute__")))
    (le4 : PySem.W.subIn K (.ref A_LineError) (.type "BaseException") = some true)
    (ci_LineError : PySem.W.isClsIn K A_LineError = true)
    (ct_LineError : PySem.W.typeIn K (.ref A_LineError) = some (.type "type"))
    (ci_BadRules : PySem.W.isClsIn K A_BadRules = true)
    (ct_BadRules : PySem.W.typeIn K (.ref A_BadRules) = some (.type "type"))
    (cs_BadRules : PySem.W.subIn K (.ref A_BadRules) (.ref A_BadRules) = some true)
    (ci_BadRuns : PySem.W.isClsIn K A_BadRuns = true)
    (ct_BadRuns : PySem.W.typeIn K (.ref A_BadRuns) = some (.type "type"))
    (cs_BadRuns : PySem.W.subIn K (.ref A_BadRuns) (.ref A_BadRuns) = some true)
    (ci_BadTask : PySem.W.isClsIn K A_BadTask = true)
    (ct_BadTask : PySem.W.typeIn K (.ref A_BadTask) = some (.type "type"))
    (cs_BadTask : PySem.W.subIn K (.ref A_BadTask) (.ref A_BadTask) = some true)
    (ci_BadTasks : PySem.W.isClsIn K A_BadTasks = true)
    (ct_BadTasks : PySem.W.typeIn K (.ref A_BadTasks) = some (.type "type"))
    (cs_BadTasks : PySem.W.subIn K (.ref A_BadTasks) (.ref A_BadTasks) = some true)
    (ci_BadText : PySem.W.isClsIn K A_BadText = true)
    (ct_BadText : PySem.W.typeIn K (.ref A_BadText) = some (.type "type"))
    (cs_BadText : PySem.W.subIn K (.ref A_BadText) (.ref A_BadText) = some true)
    (ci_BadUntil : PySem.W.isClsIn K A_BadUntil = true)
    (ct_BadUntil : PySem.W.typeIn K (.ref A_BadUntil) = some (.type "type"))
    (cs_BadUntil : PySem.W.subIn K (.ref A_BadUntil) (.ref A_BadUntil) = some true)
    (ci_NotThere : PySem.W.isClsIn K A_NotThere = true)
    (ct_NotThere : PySem.W.typeIn K (.ref A_NotThere) = some (.type "type"))
    (cs_NotThere : PySem.W.subIn K (.ref A_NotThere) (.ref A_NotThere) = some true)
    (ci_Ready : PySem.W.isClsIn K A_Ready = true)
    (ct_Ready : PySem.W.typeIn K (.ref A_Ready) = some (.type "type"))
    (cs_Ready : PySem.W.subIn K (.ref A_Ready) (.ref A_Ready) = some true)
    (ci_There : PySem.W.isClsIn K A_There = true)
    (ct_There : PySem.W.typeIn K (.ref A_There) = some (.type "type"))
    (cs_There : PySem.W.subIn K (.ref A_There) (.ref A_There) = some true)
    (ci_Waits : PySem.W.isClsIn K A_Waits = true)
    (ct_Waits : PySem.W.typeIn K (.ref A_Waits) = some (.type "type"))
    (cs_Waits : PySem.W.subIn K (.ref A_Waits) (.ref A_Waits) = some true)
    (xn : PySem.W.specialIn K (.builtin "object.__class__") "__get__" = some (some (.builtin "getset_descriptor.__get__")))
    (xt : PySem.W.takesIn K (.builtin "object.__class__") = some true)
    (sb_BadTask_BadRules : PySem.W.subIn K (.ref A_BadTask) (.ref A_BadRules) = some false)
    (sb_BadTask_BadRuns : PySem.W.subIn K (.ref A_BadTask) (.ref A_BadRuns) = some false)
    (sb_BadTask_BadTasks : PySem.W.subIn K (.ref A_BadTask) (.ref A_BadTasks) = some false)
    (sb_BadTask_BadText : PySem.W.subIn K (.ref A_BadTask) (.ref A_BadText) = some false)
    (sb_BadTask_BadUntil : PySem.W.subIn K (.ref A_BadTask) (.ref A_BadUntil) = some false)
    (sb_BadTask_NotThere : PySem.W.subIn K (.ref A_BadTask) (.ref A_NotThere) = some false)
    (sb_BadTask_Ready : PySem.W.subIn K (.ref A_BadTask) (.ref A_Ready) = some false)
    (sb_BadTask_There : PySem.W.subIn K (.ref A_BadTask) (.ref A_There) = some false)
    (sb_BadTask_Waits : PySem.W.subIn K (.ref A_BadTask) (.ref A_Waits) = some false)
    (sv_BadTask : PySem.W.subIn K (.ref A_BadTask) (.type "ValueError") = some true)
    (sl_BadTask : PySem.W.subIn K (.ref A_BadTask) (.ref A_LineError) = some true)
    (xg_BadTask : PySem.W.findIn K (.ref A_BadTask) "__getattribute__" = some (some (.builtin "BaseException.__getattribute__")))
    (xk_BadTask : PySem.W.findIn K (.ref A_BadTask) "__getattr__" = some none)
    (xb_BadTask : PySem.W.subIn K (.ref A_BadTask) (.type "BaseException") = some true)
    (xd_BadTask : PySem.W.hasDictIn K A_BadTask = true)
    (xa_BadTask : PySem.W.findIn K (.ref A_BadTask) "__class__" = some (some (.builtin "object.__class__")))
    (xm_BadTask : PySem.W.mroIn K A_BadTask (.type "object") = some true)
    (kp_BadTask : PySem.W.keepIn K (.ref A_BadTask) = true)
    (ow_BadTask : PySem.W.excIn K A_BadTask [.type "ValueError", .type "Exception", .type "BaseException", .type "object"] "ValueError.__new__" = true)
    (sb_NotThere_BadRules : PySem.W.subIn K (.ref A_NotThere) (.ref A_BadRules) = some false)
    (sb_NotThere_BadRuns : PySem.W.subIn K (.ref A_NotThere) (.ref A_BadRuns) = some false)
    (sb_NotThere_BadTask : PySem.W.subIn K (.ref A_NotThere) (.ref A_BadTask) = some false)
    (sb_NotThere_BadTasks : PySem.W.subIn K (.ref A_NotThere) (.ref A_BadTasks) = some false)
    (sb_NotThere_BadText : PySem.W.subIn K (.ref A_NotThere) (.ref A_BadText) = some false)
    (sb_NotThere_BadUntil : PySem.W.subIn K (.ref A_NotThere) (.ref A_BadUntil) = some false)
    (sb_NotThere_Ready : PySem.W.subIn K (.ref A_NotThere) (.ref A_Ready) = some false)
    (sb_NotThere_There : PySem.W.subIn K (.ref A_NotThere) (.ref A_There) = some false)
    (sb_NotThere_Waits : PySem.W.subIn K (.ref A_NotThere) (.ref A_Waits) = some false)
    (sv_NotThere : PySem.W.subIn K (.ref A_NotThere) (.type "ValueError") = some true)
    (sl_NotThere : PySem.W.subIn K (.ref A_NotThere) (.ref A_LineError) = some true)
    (xg_NotThere : PySem.W.findIn K (.ref A_NotThere) "__getattribute__" = some (some (.builtin "BaseException.__getattribute__")))
    (xk_NotThere : PySem.W.findIn K (.ref A_NotThere) "__getattr__" = some none)
    (xb_NotThere : PySem.W.subIn K (.ref A_NotThere) (.type "BaseException") = some true)
    (xd_NotThere : PySem.W.hasDictIn K A_NotThere = true)
    (xa_NotThere : PySem.W.findIn K (.ref A_NotThere) "__class__" = some (some (.builtin "object.__class__")))
    (xm_NotThere : PySem.W.mroIn K A_NotThere (.type "object") = some true)
    (kp_NotThere : PySem.W.keepIn K (.ref A_NotThere) = true)
    (ow_NotThere : PySem.W.excIn K A_NotThere [.type "ValueError", .type "Exception", .type "BaseException", .type "object"] "ValueError.__new__" = true)
    (sb_Ready_BadRules : PySem.W.subIn K (.ref A_Ready) (.ref A_BadRules) = some false)
    (sb_Ready_BadRuns : PySem.W.subIn K (.ref A_Ready) (.ref A_BadRuns) = some false)
    (sb_Ready_BadTask : PySem.W.subIn K (.ref A_Ready) (.ref A_BadTask) = some false)
    (sb_Ready_BadTasks : PySem.W.subIn K (.ref A_Ready) (.ref A_BadTasks) = some false)
    (sb_Ready_BadText : PySem.W.subIn K (.ref A_Ready) (.ref A_BadText) = some false)
    (sb_Ready_BadUntil : PySem.W.subIn K (.ref A_Ready) (.ref A_BadUntil) = some false)
    (sb_Ready_NotThere : PySem.W.subIn K (.ref A_Ready) (.ref A_NotThere) = some false)
    (sb_Ready_There : PySem.W.subIn K (.ref A_Ready) (.ref A_There) = some false)
    (sb_Ready_Waits : PySem.W.subIn K (.ref A_Ready) (.ref A_Waits) = some false)
    (sv_Ready : PySem.W.subIn K (.ref A_Ready) (.type "ValueError") = some true)
    (sl_Ready : PySem.W.subIn K (.ref A_Ready) (.ref A_LineError) = some true)
    (xg_Ready : PySem.W.findIn K (.ref A_Ready) "__getattribute__" = some (some (.builtin "BaseException.__getattribute__")))
    (xk_Ready : PySem.W.findIn K (.ref A_Ready) "__getattr__" = some none)
    (xb_Ready : PySem.W.subIn K (.ref A_Ready) (.type "BaseException") = some true)
    (xd_Ready : PySem.W.hasDictIn K A_Ready = true)
    (xa_Ready : PySem.W.findIn K (.ref A_Ready) "__class__" = some (some (.builtin "object.__class__")))
    (xm_Ready : PySem.W.mroIn K A_Ready (.type "object") = some true)
    (kp_Ready : PySem.W.keepIn K (.ref A_Ready) = true)
    (ow_Ready : PySem.W.excIn K A_Ready [.type "ValueError", .type "Exception", .type "BaseException", .type "object"] "ValueError.__new__" = true)
    (sb_There_BadRules : PySem.W.subIn K (.ref A_There) (.ref A_BadRules) = some false)
    (sb_There_BadRuns : PySem.W.subIn K (.ref A_There) (.ref A_BadRuns) = some false)
    (sb_There_BadTask : PySem.W.subIn K (.ref A_There) (.ref A_BadTask) = some false)
    (sb_There_BadTasks : PySem.W.subIn K (.ref A_There) (.ref A_BadTasks) = some false)
    (sb_There_BadText : PySem.W.subIn K (.ref A_There) (.ref A_BadText) = some false)
    (sb_There_BadUntil : PySem.W.subIn K (.ref A_There) (.ref A_BadUntil) = some false)
    (sb_There_NotThere : PySem.W.subIn K (.ref A_There) (.ref A_NotThere) = some false)
    (sb_There_Ready : PySem.W.subIn K (.ref A_There) (.ref A_Ready) = some false)
    (sb_There_Waits : PySem.W.subIn K (.ref A_There) (.ref A_Waits) = some false)
    (sv_There : PySem.W.subIn K (.ref A_There) (.type "ValueError") = some true)
    (sl_There : PySem.W.subIn K (.ref A_There) (.ref A_LineError) = some true)
    (xg_There : PySem.W.findIn K (.ref A_There) "__getattribute__" = some (some (.builtin "BaseException.__getattribute__")))
    (xk_There : PySem.W.findIn K (.ref A_There) "__getattr__" = some none)
    (xb_There : PySem.W.subIn K (.ref A_There) (.type "BaseException") = some true)
    (xd_There : PySem.W.hasDictIn K A_There = true)
    (xa_There : PySem.W.findIn K (.ref A_There) "__class__" = some (some (.builtin "object.__class__")))
    (xm_There : PySem.W.mroIn K A_There (.type "object") = some true)
    (kp_There : PySem.W.keepIn K (.ref A_There) = true)
    (ow_There : PySem.W.excIn K A_There [.type "ValueError", .type "Exception", .type "BaseException", .type "object"] "ValueError.__new__" = true)
    (sb_Waits_BadRules : PySem.W.subIn K (.ref A_Waits) (.ref A_BadRules) = some false)
    (sb_Waits_BadRuns : PySem.W.subIn K (.ref A_Waits) (.ref A_BadRuns) = some false)
    (sb_Waits_BadTask : PySem.W.subIn K (.ref A_Waits) (.ref A_BadTask) = some false)
    (sb_Waits_BadTasks : PySem.W.subIn K (.ref A_Waits) (.ref A_BadTasks) = some false)
    (sb_Waits_BadText : PySem.W.subIn K (.ref A_Waits) (.ref A_BadText) = some false)
    (sb_Waits_BadUntil : PySem.W.subIn K (.ref A_Waits) (.ref A_BadUntil) = some false)
    (sb_Waits_NotThere : PySem.W.subIn K (.ref A_Waits) (.ref A_NotThere) = some false)
    (sb_Waits_Ready : PySem.W.subIn K (.ref A_Waits) (.ref A_Ready) = some false)
    (sb_Waits_There : PySem.W.subIn K (.ref A_Waits) (.ref A_There) = some false)
    (sv_Waits : PySem.W.subIn K (.ref A_Waits) (.type "ValueError") = some true)
    (sl_Waits : PySem.W.subIn K (.ref A_Waits) (.ref A_LineError) = some true)
    (xg_Waits : PySem.W.findIn K (.ref A_Waits) "__getattribute__" = some (some (.builtin "BaseException.__getattribute__")))
    (xk_Waits : PySem.W.findIn K (.ref A_Waits) "__getattr__" = some none)
    (xb_Waits : PySem.W.subIn K (.ref A_Waits) (.type "BaseException") = some true)
    (xd_Waits : PySem.W.hasDictIn K A_Waits = true)
    (xa_Waits : PySem.W.findIn K (.ref A_Waits) "__class__" = some (some (.builtin "object.__class__")))
    (xm_Waits : PySem.W.mroIn K A_Waits (.type "object") = some true)
    (kp_Waits : PySem.W.keepIn K (.ref A_Waits) = true)
    (ow_Waits : PySem.W.excIn K A_Waits [.type "ValueError", .type "Exception", .type "BaseException", .type "object"] "ValueError.__new__" = true)
    (z_len : PySem.W.nsIn K mainGlobals "len" = some none)
    (z_isinstance : PySem.W.nsIn K mainGlobals "isinstance" = some none)
    (z_min : PySem.W.nsIn K mainGlobals "min" = some none)
    (z_range : PySem.W.nsIn K mainGlobals "range" = some none)
    (z_enumerate : PySem.W.nsIn K mainGlobals "enumerate" = some none)
    (z_int : PySem.W.nsIn K mainGlobals "int" = some none)
    (z_bool : PySem.W.nsIn K mainGlobals "bool" = some none)
    (z_str : PySem.W.nsIn K mainGlobals "str" = some none)
    (z_tuple : PySem.W.nsIn K mainGlobals "tuple" = some none)
    (z_list : PySem.W.nsIn K mainGlobals "list" = some none)
    (z_ValueError : PySem.W.nsIn K mainGlobals "ValueError" = some none)
    {t_MOST_LINES : Tok}
    (q_MOST_LINES : PySem.W.nsIn K mainGlobals "MOST_LINES" = some (some (.int 4 t_MOST_LINES)))
    {t_MOST_QUANTUM : Tok}
    (q_MOST_QUANTUM : PySem.W.nsIn K mainGlobals "MOST_QUANTUM" = some (some (.int 8 t_MOST_QUANTUM)))
    {t_MOST_SHARE : Tok}
    (q_MOST_SHARE : PySem.W.nsIn K mainGlobals "MOST_SHARE" = some (some (.int 40 t_MOST_SHARE)))
    {t_LEAST_BOOST : Tok}
    (q_LEAST_BOOST : PySem.W.nsIn K mainGlobals "LEAST_BOOST" = some (some (.int 5 t_LEAST_BOOST)))
    {t_MOST_BOOST : Tok}
    (q_MOST_BOOST : PySem.W.nsIn K mainGlobals "MOST_BOOST" = some (some (.int 100 t_MOST_BOOST)))
    {t_KEPT : Tok}
    (q_KEPT : PySem.W.nsIn K mainGlobals "KEPT" = some (some (.str "kept" t_KEPT)))
    {t_ANEW : Tok}
    (q_ANEW : PySem.W.nsIn K mainGlobals "ANEW" = some (some (.str "anew" t_ANEW)))
    {t_LINES : Tok}
    (q_LINES : PySem.W.nsIn K mainGlobals "LINES" = some (some (.int 0 t_LINES)))
    {t_BOOST : Tok}
    (q_BOOST : PySem.W.nsIn K mainGlobals "BOOST" = some (some (.int 1 t_BOOST)))
    {t_CHARGE : Tok}
    (q_CHARGE : PySem.W.nsIn K mainGlobals "CHARGE" = some (some (.int 2 t_CHARGE)))
    {t_MOST_TASK : Tok}
    (q_MOST_TASK : PySem.W.nsIn K mainGlobals "MOST_TASK" = some (some (.int 19 t_MOST_TASK)))
    {occ_law_is_refused : Value} {odc_law_is_refused : Option Addr} {vsc_law_is_refused : Array Value} {osc_law_is_refused : Array (Option Value)}
    (tl_law_is_refused : K.lookup A_cd_law_is_refused = some ⟨occ_law_is_refused, odc_law_is_refused, .fields vsc_law_is_refused, osc_law_is_refused⟩)
    (tp_law_is_refused : vsc_law_is_refused[11]? = some (.ref Pt_law_is_refused))
    (th_law_is_refused : PySem.W.codeHdIn K A_cd_law_is_refused Pt_law_is_refused = true)
    (tn_law_is_refused : K.lookup Pt_law_is_refused = none)
    (tt_law_is_refused : h.get? Pt_law_is_refused = some { cls := .none, data := .fields #[] })
    : LamX.LawAtS l w K CX0 35 63 "_law_script" mg fa h := by
  have e := hfa.symm.trans (PySem.W.mg_of X G a33)
  obtain rfl : A_law = fa := (Value.ref.inj (Option.some.inj e)).symm
  have F0 := fun_mk (st := s_is_number) l0 c0 k0
  have B0 := F0.binds (ps := ["part", "low", "high"]) fun _ _ _ _ _ _ us hl => match us, hl with | [_, _, _], _ => rfl
  have F1 := fun_mk (st := s_is_line) l1 c1 k1
  have B1 := F1.binds (ps := ["line"]) fun _ _ _ _ _ _ us hl => match us, hl with | [_], _ => rfl
  have F2 := fun_mk (st := s_need_rules) l2 c2 k2
  have B2 := F2.binds (ps := ["rules"]) fun _ _ _ _ _ _ us hl => match us, hl with | [_], _ => rfl
  have F3 := fun_mk (st := s_need_task) l3 c3 k3
  have B3 := F3.binds (ps := ["task"]) fun _ _ _ _ _ _ us hl => match us, hl with | [_], _ => rfl
  have F4 := fun_mk (st := s_Card__init) l4 c4 k4
  have B4 := F4.binds (ps := ["self", "many"]) fun _ _ _ _ _ _ us hl => match us, hl with | [_, _], _ => rfl
  have F5 := fun_mk (st := s_Lines__init) l5 c5 k5
  have B5 := F5.binds (ps := ["self", "rules"]) fun _ _ _ _ _ _ us hl => match us, hl with | [_, _], _ => rfl
  have F6 := fun_mk (st := s_Lines_need_there) l6 c6 k6
  have B6 := F6.binds (ps := ["self", "task"]) fun _ _ _ _ _ _ us hl => match us, hl with | [_, _], _ => rfl
  have F7 := fun_mk (st := s_Lines_lay) l7 c7 k7
  have B7 := F7.binds (ps := ["self", "task", "line"]) fun _ _ _ _ _ _ us hl => match us, hl with | [_, _, _], _ => rfl
  have F8 := fun_mk (st := s_Lines_come) l8 c8 k8
  have B8 := F8.binds (ps := ["self", "task"]) fun _ _ _ _ _ _ us hl => match us, hl with | [_, _], _ => rfl
  have F9 := fun_mk (st := s_Lines_go) l9 c9 k9
  have B9 := F9.binds (ps := ["self", "task"]) fun _ _ _ _ _ _ us hl => match us, hl with | [_, _], _ => rfl
  have F10 := fun_mk (st := s_Lines_wait) l10 c10 k10
  have B10 := F10.binds (ps := ["self", "task"]) fun _ _ _ _ _ _ us hl => match us, hl with | [_, _], _ => rfl
  have F11 := fun_mk (st := s_Lines_wake) l11 c11 k11
  have B11 := F11.binds (ps := ["self", "task"]) fun _ _ _ _ _ _ us hl => match us, hl with | [_, _], _ => rfl
  have F12 := fun_mk (st := s_Lines_boosted) l12 c12 k12
  have B12 := F12.binds (ps := ["self"]) fun _ _ _ _ _ _ us hl => match us, hl with | [_], _ => rfl
  have F13 := fun_mk (st := s_Lines_first) l13 c13 k13
  have B13 := F13.binds (ps := ["self"]) fun _ _ _ _ _ _ us hl => match us, hl with | [_], _ => rfl
  have F14 := fun_mk (st := s_Lines_boost_now) l14 c14 k14
  have B14 := F14.binds (ps := ["self"]) fun _ _ _ _ _ _ us hl => match us, hl with | [_], _ => rfl
  have F15 := fun_mk (st := s_Lines_run) l15 c15 k15
  have B15 := F15.binds (ps := ["self", "many"]) fun _ _ _ _ _ _ us hl => match us, hl with | [_, _], _ => rfl
  have F16 := fun_mk (st := s_Lines_tick) l16 c16 k16
  have B16 := F16.binds (ps := ["self"]) fun _ _ _ _ _ _ us hl => match us, hl with | [_], _ => rfl
  have F17 := fun_mk (st := s_Lines_charge) l17 c17 k17
  have B17 := F17.binds (ps := ["self", "task", "many"]) fun _ _ _ _ _ _ us hl => match us, hl with | [_, _, _], _ => rfl
  have F18 := fun_mk (st := s_Lines_lines) l18 c18 k18
  have B18 := F18.binds (ps := ["self"]) fun _ _ _ _ _ _ us hl => match us, hl with | [_], _ => rfl
  have F19 := fun_mk (st := s_Lines_now) l19 c19 k19
  have B19 := F19.binds (ps := ["self"]) fun _ _ _ _ _ _ us hl => match us, hl with | [_], _ => rfl
  have F20 := fun_mk (st := s_Lines_card) l20 c20 k20
  have B20 := F20.binds (ps := ["self", "task"]) fun _ _ _ _ _ _ us hl => match us, hl with | [_, _], _ => rfl
  have F21 := fun_mk (st := s_Lines_used) l21 c21 k21
  have B21 := F21.binds (ps := ["self", "task"]) fun _ _ _ _ _ _ us hl => match us, hl with | [_, _], _ => rfl
  have F22 := fun_mk (st := s_Lines_tasks) l22 c22 k22
  have B22 := F22.binds (ps := ["self"]) fun _ _ _ _ _ _ us hl => match us, hl with | [_], _ => rfl
  have F23 := fun_mk (st := s_law_begun) l23 c23 k23
  have B23 := F23.binds (ps := ["_law_script"]) fun _ _ _ _ _ _ us hl => match us, hl with | [_], _ => rfl
  have F24 := fun_mk (st := s_law_take) l24 c24 k24
  have B24 := F24.binds (ps := ["_law_box", "_law_many"]) fun _ _ _ _ _ _ us hl => match us, hl with | [_, _], _ => rfl
  have F25 := fun_mk (st := s_law_alike) l25 c25 k25
  have B25 := F25.binds (ps := ["_law_found", "_law_due"]) fun _ _ _ _ _ _ us hl => match us, hl with | [_, _], _ => rfl
  have F26 := fun_mk (st := s_law_told) l26 c26 k26
  have B26 := F26.binds (ps := ["_law_work"]) fun _ _ _ _ _ _ us hl => match us, hl with | [_], _ => rfl
  have F27 := fun_mk (st := s_law_all) l27 c27 k27
  have B27 := F27.binds (ps := ["_law_works", "_law_due"]) fun _ _ _ _ _ _ us hl => match us, hl with | [_, _], _ => rfl
  have F28 := fun_mk (st := s_law_rules) l28 c28 k28
  have B28 := F28.binds (ps := ["_law_box"]) fun _ _ _ _ _ _ us hl => match us, hl with | [_], _ => rfl
  have F29 := fun_mk (st := s_law_deed) l29 c29 k29
  have B29 := F29.binds (ps := ["_law_box", "_law_lines"]) fun _ _ _ _ _ _ us hl => match us, hl with | [_, _], _ => rfl
  have F30 := fun_mk (st := s_law_done) l30 c30 k30
  have B30 := F30.binds (ps := ["_law_lines", "_law_deed_here", "_law_task"]) fun _ _ _ _ _ _ us hl => match us, hl with | [_, _, _], _ => rfl
  have F31 := fun_mk (st := s_law_shown) l31 c31 k31
  have B31 := F31.binds (ps := ["_law_lines"]) fun _ _ _ _ _ _ us hl => match us, hl with | [_], _ => rfl
  have F32 := funC_mk (st := s_law_is_refused) l32 c32 k32
  have B32 := F32.fun_.binds (ps := ["_law_box", "_law_lines"]) fun _ _ _ _ _ _ us hl => match us, hl with | [_, _], _ => rfl
  have F33 := fun_mk (st := s_law) l33 c33 k33
  have B33 := F33.binds (ps := ["_law_script"]) fun _ _ _ _ _ _ us hl => match us, hl with | [_], _ => rfl
  have T : Txt K mg ⟨A_is_number, A_is_line, A_need_rules, A_need_task, A_Card__init, A_Lines__init, A_Lines_need_there, A_Lines_lay, A_Lines_come, A_Lines_go, A_Lines_wait, A_Lines_wake, A_Lines_boosted, A_Lines_first, A_Lines_boost_now, A_Lines_run, A_Lines_tick, A_Lines_charge, A_Lines_lines, A_Lines_now, A_Lines_card, A_Lines_used, A_Lines_tasks, A_law_begun, A_law_take, A_law_alike, A_law_told, A_law_all, A_law_rules, A_law_deed, A_law_done, A_law_shown, A_law_is_refused, A_law, A_Card, A_Lines, A_LineError, A_BadRules, A_BadRuns, A_BadTask, A_BadTasks, A_BadText, A_BadUntil, A_NotThere, A_Ready, A_There, A_Waits, A_cd_law_is_refused⟩ := {
    f_is_number := ⟨_, F0, B0⟩,
    g_is_number := PySem.W.mg_of X G a0,
    f_is_line := ⟨_, F1, B1⟩,
    g_is_line := PySem.W.mg_of X G a1,
    f_need_rules := ⟨_, F2, B2⟩,
    g_need_rules := PySem.W.mg_of X G a2,
    f_need_task := ⟨_, F3, B3⟩,
    g_need_task := PySem.W.mg_of X G a3,
    f_Card__init := ⟨_, F4, B4⟩,
    f_Lines__init := ⟨_, F5, B5⟩,
    f_Lines_need_there := ⟨_, F6, B6⟩,
    m_Lines_need_there := ⟨a6, i6, k6⟩,
    f_Lines_lay := ⟨_, F7, B7⟩,
    m_Lines_lay := ⟨a7, i7, k7⟩,
    f_Lines_come := ⟨_, F8, B8⟩,
    m_Lines_come := ⟨a8, i8, k8⟩,
    f_Lines_go := ⟨_, F9, B9⟩,
    m_Lines_go := ⟨a9, i9, k9⟩,
    f_Lines_wait := ⟨_, F10, B10⟩,
    m_Lines_wait := ⟨a10, i10, k10⟩,
    f_Lines_wake := ⟨_, F11, B11⟩,
    m_Lines_wake := ⟨a11, i11, k11⟩,
    f_Lines_boosted := ⟨_, F12, B12⟩,
    m_Lines_boosted := ⟨a12, i12, k12⟩,
    f_Lines_first := ⟨_, F13, B13⟩,
    m_Lines_first := ⟨a13, i13, k13⟩,
    f_Lines_boost_now := ⟨_, F14, B14⟩,
    m_Lines_boost_now := ⟨a14, i14, k14⟩,
    f_Lines_run := ⟨_, F15, B15⟩,
    m_Lines_run := ⟨a15, i15, k15⟩,
    f_Lines_tick := ⟨_, F16, B16⟩,
    m_Lines_tick := ⟨a16, i16, k16⟩,
    f_Lines_charge := ⟨_, F17, B17⟩,
    m_Lines_charge := ⟨a17, i17, k17⟩,
    f_Lines_lines := ⟨_, F18, B18⟩,
    m_Lines_lines := ⟨a18, i18, k18⟩,
    f_Lines_now := ⟨_, F19, B19⟩,
    m_Lines_now := ⟨a19, i19, k19⟩,
    f_Lines_card := ⟨_, F20, B20⟩,
    m_Lines_card := ⟨a20, i20, k20⟩,
    f_Lines_used := ⟨_, F21, B21⟩,
    m_Lines_used := ⟨a21, i21, k21⟩,
    f_Lines_tasks := ⟨_, F22, B22⟩,
    m_Lines_tasks := ⟨a22, i22, k22⟩,
    f_law_begun := ⟨_, F23, B23⟩,
    g_law_begun := PySem.W.mg_of X G a23,
    f_law_take := ⟨_, F24, B24⟩,
    g_law_take := PySem.W.mg_of X G a24,
    f_law_alike := ⟨_, F25, B25⟩,
    g_law_alike := PySem.W.mg_of X G a25,
    f_law_told := ⟨_, F26, B26⟩,
    g_law_told := PySem.W.mg_of X G a26,
    f_law_all := ⟨_, F27, B27⟩,
    g_law_all := PySem.W.mg_of X G a27,
    f_law_rules := ⟨_, F28, B28⟩,
    g_law_rules := PySem.W.mg_of X G a28,
    f_law_deed := ⟨_, F29, B29⟩,
    g_law_deed := PySem.W.mg_of X G a29,
    f_law_done := ⟨_, F30, B30⟩,
    g_law_done := PySem.W.mg_of X G a30,
    f_law_shown := ⟨_, F31, B31⟩,
    g_law_shown := PySem.W.mg_of X G a31,
    f_law_is_refused := ⟨_, F32, B32⟩,
    g_law_is_refused := PySem.W.mg_of X G a32,
    f_law := ⟨_, F33, B33⟩,
    g_law := PySem.W.mg_of X G a33,
    c_Card := ⟨pg_Card, hd_Card, po_Card, sa_Card⟩,
    g_Card := PySem.W.mg_of X G e_Card,
    n_Card_line := n_Card_line,
    n_Card_quantum := n_Card_quantum,
    n_Card_share := n_Card_share,
    n_Card_is_ready := n_Card_is_ready,
    n_Card_spent := n_Card_spent,
    k_Card := ⟨mk_Card, a4, i4, kc_Card⟩,
    c_Lines := ⟨pg_Lines, hd_Lines, po_Lines, sa_Lines⟩,
    g_Lines := PySem.W.mg_of X G e_Lines,
    n_Lines_rules := n_Lines_rules,
    n_Lines_cards := n_Lines_cards,
    n_Lines_rows := n_Lines_rows,
    n_Lines_time := n_Lines_time,
    k_Lines := ⟨mk_Lines, a5, i5, kc_Lines⟩,
    le := ⟨PySem.W.mg_of X G e_LineError, le1, le2, le3⟩,
    g_LineError := PySem.W.mg_of X G e_LineError,
    g_BadRules := PySem.W.mg_of X G e_BadRules,
    g_BadRuns := PySem.W.mg_of X G e_BadRuns,
    g_BadTask := PySem.W.mg_of X G e_BadTask,
    g_BadTasks := PySem.W.mg_of X G e_BadTasks,
    g_BadText := PySem.W.mg_of X G e_BadText,
    g_BadUntil := PySem.W.mg_of X G e_BadUntil,
    g_NotThere := PySem.W.mg_of X G e_NotThere,
    g_Ready := PySem.W.mg_of X G e_Ready,
    g_There := PySem.W.mg_of X G e_There,
    g_Waits := PySem.W.mg_of X G e_Waits,
    r_BadTask := ⟨kit10 (kit_no ci_BadRules ct_BadRules sb_BadTask_BadRules cs_BadRules) (kit_no ci_BadRuns ct_BadRuns sb_BadTask_BadRuns cs_BadRuns) (kit_yes) (kit_no ci_BadTasks ct_BadTasks sb_BadTask_BadTasks cs_BadTasks) (kit_no ci_BadText ct_BadText sb_BadTask_BadText cs_BadText) (kit_no ci_BadUntil ct_BadUntil sb_BadTask_BadUntil cs_BadUntil) (kit_no ci_NotThere ct_NotThere sb_BadTask_NotThere cs_NotThere) (kit_no ci_Ready ct_Ready sb_BadTask_Ready cs_Ready) (kit_no ci_There ct_There sb_BadTask_There cs_There) (kit_no ci_Waits ct_Waits sb_BadTask_Waits cs_Waits), kit_ve sv_BadTask, exm_of le4 ci_LineError ct_LineError sl_BadTask, ⟨xg_BadTask, xk_BadTask, xb_BadTask, xd_BadTask, xa_BadTask, xn, xt, xm_BadTask⟩⟩,
    p_BadTask := ⟨ow_BadTask, kp_BadTask, xb_BadTask, ct_BadTask⟩,
    r_NotThere := ⟨kit10 (kit_no ci_BadRules ct_BadRules sb_NotThere_BadRules cs_BadRules) (kit_no ci_BadRuns ct_BadRuns sb_NotThere_BadRuns cs_BadRuns) (kit_no ci_BadTask ct_BadTask sb_NotThere_BadTask cs_BadTask) (kit_no ci_BadTasks ct_BadTasks sb_NotThere_BadTasks cs_BadTasks) (kit_no ci_BadText ct_BadText sb_NotThere_BadText cs_BadText) (kit_no ci_BadUntil ct_BadUntil sb_NotThere_BadUntil cs_BadUntil) (kit_yes) (kit_no ci_Ready ct_Ready sb_NotThere_Ready cs_Ready) (kit_no ci_There ct_There sb_NotThere_There cs_There) (kit_no ci_Waits ct_Waits sb_NotThere_Waits cs_Waits), kit_ve sv_NotThere, exm_of le4 ci_LineError ct_LineError sl_NotThere, ⟨xg_NotThere, xk_NotThere, xb_NotThere, xd_NotThere, xa_NotThere, xn, xt, xm_NotThere⟩⟩,
    p_NotThere := ⟨ow_NotThere, kp_NotThere, xb_NotThere, ct_NotThere⟩,
    r_Ready := ⟨kit10 (kit_no ci_BadRules ct_BadRules sb_Ready_BadRules cs_BadRules) (kit_no ci_BadRuns ct_BadRuns sb_Ready_BadRuns cs_BadRuns) (kit_no ci_BadTask ct_BadTask sb_Ready_BadTask cs_BadTask) (kit_no ci_BadTasks ct_BadTasks sb_Ready_BadTasks cs_BadTasks) (kit_no ci_BadText ct_BadText sb_Ready_BadText cs_BadText) (kit_no ci_BadUntil ct_BadUntil sb_Ready_BadUntil cs_BadUntil) (kit_no ci_NotThere ct_NotThere sb_Ready_NotThere cs_NotThere) (kit_yes) (kit_no ci_There ct_There sb_Ready_There cs_There) (kit_no ci_Waits ct_Waits sb_Ready_Waits cs_Waits), kit_ve sv_Ready, exm_of le4 ci_LineError ct_LineError sl_Ready, ⟨xg_Ready, xk_Ready, xb_Ready, xd_Ready, xa_Ready, xn, xt, xm_Ready⟩⟩,
    p_Ready := ⟨ow_Ready, kp_Ready, xb_Ready, ct_Ready⟩,
    r_There := ⟨kit10 (kit_no ci_BadRules ct_BadRules sb_There_BadRules cs_BadRules) (kit_no ci_BadRuns ct_BadRuns sb_There_BadRuns cs_BadRuns) (kit_no ci_BadTask ct_BadTask sb_There_BadTask cs_BadTask) (kit_no ci_BadTasks ct_BadTasks sb_There_BadTasks cs_BadTasks) (kit_no ci_BadText ct_BadText sb_There_BadText cs_BadText) (kit_no ci_BadUntil ct_BadUntil sb_There_BadUntil cs_BadUntil) (kit_no ci_NotThere ct_NotThere sb_There_NotThere cs_NotThere) (kit_no ci_Ready ct_Ready sb_There_Ready cs_Ready) (kit_yes) (kit_no ci_Waits ct_Waits sb_There_Waits cs_Waits), kit_ve sv_There, exm_of le4 ci_LineError ct_LineError sl_There, ⟨xg_There, xk_There, xb_There, xd_There, xa_There, xn, xt, xm_There⟩⟩,
    p_There := ⟨ow_There, kp_There, xb_There, ct_There⟩,
    r_Waits := ⟨kit10 (kit_no ci_BadRules ct_BadRules sb_Waits_BadRules cs_BadRules) (kit_no ci_BadRuns ct_BadRuns sb_Waits_BadRuns cs_BadRuns) (kit_no ci_BadTask ct_BadTask sb_Waits_BadTask cs_BadTask) (kit_no ci_BadTasks ct_BadTasks sb_Waits_BadTasks cs_BadTasks) (kit_no ci_BadText ct_BadText sb_Waits_BadText cs_BadText) (kit_no ci_BadUntil ct_BadUntil sb_Waits_BadUntil cs_BadUntil) (kit_no ci_NotThere ct_NotThere sb_Waits_NotThere cs_NotThere) (kit_no ci_Ready ct_Ready sb_Waits_Ready cs_Ready) (kit_no ci_There ct_There sb_Waits_There cs_There) (kit_yes), kit_ve sv_Waits, exm_of le4 ci_LineError ct_LineError sl_Waits, ⟨xg_Waits, xk_Waits, xb_Waits, xd_Waits, xa_Waits, xn, xt, xm_Waits⟩⟩,
    p_Waits := ⟨ow_Waits, kp_Waits, xb_Waits, ct_Waits⟩,
    z_len := PySem.W.mg_none_of X G z_len,
    z_isinstance := PySem.W.mg_none_of X G z_isinstance,
    z_min := PySem.W.mg_none_of X G z_min,
    z_range := PySem.W.mg_none_of X G z_range,
    z_enumerate := PySem.W.mg_none_of X G z_enumerate,
    z_int := PySem.W.mg_none_of X G z_int,
    z_bool := PySem.W.mg_none_of X G z_bool,
    z_str := PySem.W.mg_none_of X G z_str,
    z_tuple := PySem.W.mg_none_of X G z_tuple,
    z_list := PySem.W.mg_none_of X G z_list,
    z_ValueError := PySem.W.mg_none_of X G z_ValueError,
    g_MOST_LINES := ⟨_, PySem.W.mg_of X G q_MOST_LINES⟩,
    g_MOST_QUANTUM := ⟨_, PySem.W.mg_of X G q_MOST_QUANTUM⟩,
    g_MOST_SHARE := ⟨_, PySem.W.mg_of X G q_MOST_SHARE⟩,
    g_LEAST_BOOST := ⟨_, PySem.W.mg_of X G q_LEAST_BOOST⟩,
    g_MOST_BOOST := ⟨_, PySem.W.mg_of X G q_MOST_BOOST⟩,
    g_KEPT := ⟨_, PySem.W.mg_of X G q_KEPT⟩,
    g_ANEW := ⟨_, PySem.W.mg_of X G q_ANEW⟩,
    g_LINES := ⟨_, PySem.W.mg_of X G q_LINES⟩,
    g_BOOST := ⟨_, PySem.W.mg_of X G q_BOOST⟩,
    g_CHARGE := ⟨_, PySem.W.mg_of X G q_CHARGE⟩,
    g_MOST_TASK := ⟨_, PySem.W.mg_of X G q_MOST_TASK⟩ }
  exact ⟨_, [(A_cd_law_is_refused, Pt_law_is_refused)], spL K Pt_law_is_refused, (fun p hp => by simp only [List.mem_cons, List.not_mem_nil, or_false] at hp; rcases hp with rfl <;> first | exact tt_law_is_refused), (fun p hp => by simp only [List.mem_cons, List.not_mem_nil, or_false] at hp; rcases hp with rfl <;> first | exact tn_law_is_refused), (fun p hp => by simp only [List.mem_cons, List.not_mem_nil, or_false] at hp; rcases hp with rfl <;> first | exact PySem.W.codeHd_of_K X th_law_is_refused), fun s v => .of_eq rfl, (fun H a ns hl hb hH hS => ⟨_, rfl, a, ns, rfl, hS, by omega, hb, hH (A_cd_law_is_refused, Pt_law_is_refused) (by simp),  fun _ => rfl⟩), fun base _ _ TB => okF_law (P := l.prog) T F33 (TB (A_cd_law_is_refused, Pt_law_is_refused) (by simp))⟩
end Qn
open PySem PySem.W PyProof.Rows
set_option maxRecDepth 100000 in
set_option maxHeartbeats 0 in
theorem PySem.Challenge.cw_quantalines_k03_deeds_refused_holds : PySem.Challenge.rw_quantalines_k03_deeds_refused.Holds := by
  w_on; o_law; k_head; (case hw => w_witness2)
  k_fill
  refine LamX.walk_ofTs (l := PySem.Challenge.rw_quantalines_k03_deeds_refused) (n := 63) (k := 35) (x := "_law_script") (CX := fun _ => L2.CX0) rfl (by decide) rfl ⟨rfl, by decide, by decide⟩ (fun w h Y => PySem.W.km_in_of Y) ?F fun _ _ _ _ _ z => z
  case F =>
    intro w mg fa h Y KX G hmg
    have hT := PySem.W.km_tabs_of Y
    refine' Qn.all_mk KX G hmg ?e_Card ?e_Lines ?e_LineError ?e_BadRules ?e_BadRuns ?e_BadTask ?e_BadTasks ?e_BadText ?e_BadUntil ?e_NotThere ?e_Ready ?e_There ?e_Waits ?a0 ?l0 ?c0 ?k0 ?a1 ?l1 ?c1 ?k1 ?a2 ?l2 ?c2 ?k2 ?a3 ?l3 ?c3 ?k3 ?a4 ?i4 ?l4 ?c4 ?k4 ?a5 ?i5 ?l5 ?c5 ?k5 ?a6 ?i6 ?l6 ?c6 ?k6 ?a7 ?i7 ?l7 ?c7 ?k7 ?a8 ?i8 ?l8 ?c8 ?k8 ?a9 ?i9 ?l9 ?c9 ?k9 ?a10 ?i10 ?l10 ?c10 ?k10 ?a11 ?i11 ?l11 ?c11 ?k11 ?a12 ?i12 ?l12 ?c12 ?k12 ?a13 ?i13 ?l13 ?c13 ?k13 ?a14 ?i14 ?l14 ?c14 ?k14 ?a15 ?i15 ?l15 ?c15 ?k15 ?a16 ?i16 ?l16 ?c16 ?k16 ?a17 ?i17 ?l17 ?c17 ?k17 ?a18 ?i18 ?l18 ?c18 ?k18 ?a19 ?i19 ?l19 ?c19 ?k19 ?a20 ?i20 ?l20 ?c20 ?k20 ?a21 ?i21 ?l21 ?c21 ?k21 ?a22 ?i22 ?l22 ?c22 ?k22 ?a23 ?l23 ?c23 ?k23 ?a24 ?l24 ?c24 ?k24 ?a25 ?l25 ?c25 ?k25 ?a26 ?l26 ?c26 ?k26 ?a27 ?l27 ?c27 ?k27 ?a28 ?l28 ?c28 ?k28 ?a29 ?l29 ?c29 ?k29 ?a30 ?l30 ?c30 ?k30 ?a31 ?l31 ?c31 ?k31 ?a32 ?l32 ?c32 ?k32 ?a33 ?l33 ?c33 ?k33 ?pg_Card ?hd_Card ?po_Card ?sa_Card ?mk_Card ?kc_Card ?n_Card_line ?n_Card_quantum ?n_Card_share ?n_Card_is_ready ?n_Card_spent ?pg_Lines ?hd_Lines ?po_Lines ?sa_Lines ?mk_Lines ?kc_Lines ?n_Lines_rules ?n_Lines_cards ?n_Lines_rows ?n_Lines_time ?le1 ?le2 ?le3 ?le4 ?ci_LineError ?ct_LineError ?ci_BadRules ?ct_BadRules ?cs_BadRules ?ci_BadRuns ?ct_BadRuns ?cs_BadRuns ?ci_BadTask ?ct_BadTask ?cs_BadTask ?ci_BadTasks ?ct_BadTasks ?cs_BadTasks ?ci_BadText ?ct_BadText ?cs_BadText ?ci_BadUntil ?ct_BadUntil ?cs_BadUntil ?ci_NotThere ?ct_NotThere ?cs_NotThere ?ci_Ready ?ct_Ready ?cs_Ready ?ci_There ?ct_There ?cs_There ?ci_Waits ?ct_Waits ?cs_Waits ?xn ?xt ?sb_BadTask_BadRules ?sb_BadTask_BadRuns ?sb_BadTask_BadTasks ?sb_BadTask_BadText ?sb_BadTask_BadUntil ?sb_BadTask_NotThere ?sb_BadTask_Ready ?sb_BadTask_There ?sb_BadTask_Waits ?sv_BadTask ?sl_BadTask ?xg_BadTask ?xk_BadTask ?xb_BadTask ?xd_BadTask ?xa_BadTask ?xm_BadTask ?kp_BadTask ?ow_BadTask ?sb_NotThere_BadRules ?sb_NotThere_BadRuns ?sb_NotThere_BadTask ?sb_NotThere_BadTasks ?sb_NotThere_BadText ?sb_NotThere_BadUntil ?sb_NotThere_Ready ?sb_NotThere_There ?sb_NotThere_Waits ?sv_NotThere ?sl_NotThere ?xg_NotThere ?xk_NotThere ?xb_NotThere ?xd_NotThere ?xa_NotThere ?xm_NotThere ?kp_NotThere ?ow_NotThere ?sb_Ready_BadRules ?sb_Ready_BadRuns ?sb_Ready_BadTask ?sb_Ready_BadTasks ?sb_Ready_BadText ?sb_Ready_BadUntil ?sb_Ready_NotThere ?sb_Ready_There ?sb_Ready_Waits ?sv_Ready ?sl_Ready ?xg_Ready ?xk_Ready ?xb_Ready ?xd_Ready ?xa_Ready ?xm_Ready ?kp_Ready ?ow_Ready ?sb_There_BadRules ?sb_There_BadRuns ?sb_There_BadTask ?sb_There_BadTasks ?sb_There_BadText ?sb_There_BadUntil ?sb_There_NotThere ?sb_There_Ready ?sb_There_Waits ?sv_There ?sl_There ?xg_There ?xk_There ?xb_There ?xd_There ?xa_There ?xm_There ?kp_There ?ow_There ?sb_Waits_BadRules ?sb_Waits_BadRuns ?sb_Waits_BadTask ?sb_Waits_BadTasks ?sb_Waits_BadText ?sb_Waits_BadUntil ?sb_Waits_NotThere ?sb_Waits_Ready ?sb_Waits_There ?sv_Waits ?sl_Waits ?xg_Waits ?xk_Waits ?xb_Waits ?xd_Waits ?xa_Waits ?xm_Waits ?kp_Waits ?ow_Waits ?z_len ?z_isinstance ?z_min ?z_range ?z_enumerate ?z_int ?z_bool ?z_str ?z_tuple ?z_list ?z_ValueError ?q_MOST_LINES ?q_MOST_QUANTUM ?q_MOST_SHARE ?q_LEAST_BOOST ?q_MOST_BOOST ?q_KEPT ?q_ANEW ?q_LINES ?q_BOOST ?q_CHARGE ?q_MOST_TASK ?tl_law_is_refused ?tp_law_is_refused ?th_law_is_refused ?tn_law_is_refused ?tt_law_is_refused
    (case e_Card => k_is)
    (case e_Lines => k_is)
    (case e_LineError => k_is)
    (case e_BadRules => k_is)
    (case e_BadRuns => k_is)
    (case e_BadTask => k_is)
    (case e_BadTasks => k_is)
    (case e_BadText => k_is)
    (case e_BadUntil => k_is)
    (case e_NotThere => k_is)
    (case e_Ready => k_is)
    (case e_There => k_is)
    (case e_Waits => k_is)
    (case a0 => k_is)
    (case l0 => k_is)
    (case c0 => k_is)
    (case k0 => k_is)
    (case a1 => k_is)
    (case l1 => k_is)
    (case c1 => k_is)
    (case k1 => k_is)
    (case a2 => k_is)
    (case l2 => k_is)
    (case c2 => k_is)
    (case k2 => k_is)
    (case a3 => k_is)
    (case l3 => k_is)
    (case c3 => k_is)
    (case k3 => k_is)
    (case a4 => k_is)
    (case i4 => k_is)
    (case l4 => k_is)
    (case c4 => k_is)
    (case k4 => k_is)
    (case a5 => k_is)
    (case i5 => k_is)
    (case l5 => k_is)
    (case c5 => k_is)
    (case k5 => k_is)
    (case a6 => k_is)
    (case i6 => k_is)
    (case l6 => k_is)
    (case c6 => k_is)
    (case k6 => k_is)
    (case a7 => k_is)
    (case i7 => k_is)
    (case l7 => k_is)
    (case c7 => k_is)
    (case k7 => k_is)
    (case a8 => k_is)
    (case i8 => k_is)
    (case l8 => k_is)
    (case c8 => k_is)
    (case k8 => k_is)
    (case a9 => k_is)
    (case i9 => k_is)
    (case l9 => k_is)
    (case c9 => k_is)
    (case k9 => k_is)
    (case a10 => k_is)
    (case i10 => k_is)
    (case l10 => k_is)
    (case c10 => k_is)
    (case k10 => k_is)
    (case a11 => k_is)
    (case i11 => k_is)
    (case l11 => k_is)
    (case c11 => k_is)
    (case k11 => k_is)
    (case a12 => k_is)
    (case i12 => k_is)
    (case l12 => k_is)
    (case c12 => k_is)
    (case k12 => k_is)
    (case a13 => k_is)
    (case i13 => k_is)
    (case l13 => k_is)
    (case c13 => k_is)
    (case k13 => k_is)
    (case a14 => k_is)
    (case i14 => k_is)
    (case l14 => k_is)
    (case c14 => k_is)
    (case k14 => k_is)
    (case a15 => k_is)
    (case i15 => k_is)
    (case l15 => k_is)
    (case c15 => k_is)
    (case k15 => k_is)
    (case a16 => k_is)
    (case i16 => k_is)
    (case l16 => k_is)
    (case c16 => k_is)
    (case k16 => k_is)
    (case a17 => k_is)
    (case i17 => k_is)
    (case l17 => k_is)
    (case c17 => k_is)
    (case k17 => k_is)
    (case a18 => k_is)
    (case i18 => k_is)
    (case l18 => k_is)
    (case c18 => k_is)
    (case k18 => k_is)
    (case a19 => k_is)
    (case i19 => k_is)
    (case l19 => k_is)
    (case c19 => k_is)
    (case k19 => k_is)
    (case a20 => k_is)
    (case i20 => k_is)
    (case l20 => k_is)
    (case c20 => k_is)
    (case k20 => k_is)
    (case a21 => k_is)
    (case i21 => k_is)
    (case l21 => k_is)
    (case c21 => k_is)
    (case k21 => k_is)
    (case a22 => k_is)
    (case i22 => k_is)
    (case l22 => k_is)
    (case c22 => k_is)
    (case k22 => k_is)
    (case a23 => k_is)
    (case l23 => k_is)
    (case c23 => k_is)
    (case k23 => k_is)
    (case a24 => k_is)
    (case l24 => k_is)
    (case c24 => k_is)
    (case k24 => k_is)
    (case a25 => k_is)
    (case l25 => k_is)
    (case c25 => k_is)
    (case k25 => k_is)
    (case a26 => k_is)
    (case l26 => k_is)
    (case c26 => k_is)
    (case k26 => k_is)
    (case a27 => k_is)
    (case l27 => k_is)
    (case c27 => k_is)
    (case k27 => k_is)
    (case a28 => k_is)
    (case l28 => k_is)
    (case c28 => k_is)
    (case k28 => k_is)
    (case a29 => k_is)
    (case l29 => k_is)
    (case c29 => k_is)
    (case k29 => k_is)
    (case a30 => k_is)
    (case l30 => k_is)
    (case c30 => k_is)
    (case k30 => k_is)
    (case a31 => k_is)
    (case l31 => k_is)
    (case c31 => k_is)
    (case k31 => k_is)
    (case a32 => k_is)
    (case l32 => k_is)
    (case c32 => k_is)
    (case k32 => k_is)
    (case a33 => k_is)
    (case l33 => k_is)
    (case c33 => k_is)
    (case k33 => k_is)
    (case pg_Card => k_is)
    (case hd_Card => k_is)
    (case po_Card => k_is)
    (case sa_Card => k_is)
    (case mk_Card => k_is)
    (case kc_Card => k_is)
    (case n_Card_line => k_is)
    (case n_Card_quantum => k_is)
    (case n_Card_share => k_is)
    (case n_Card_is_ready => k_is)
    (case n_Card_spent => k_is)
    (case pg_Lines => k_is)
    (case hd_Lines => k_is)
    (case po_Lines => k_is)
    (case sa_Lines => k_is)
    (case mk_Lines => k_is)
    (case kc_Lines => k_is)
    (case n_Lines_rules => k_is)
    (case n_Lines_cards => k_is)
    (case n_Lines_rows => k_is)
    (case n_Lines_time => k_is)
    (case le1 => k_is)
    (case le2 => k_is)
    (case le3 => k_is)
    (case le4 => k_is)
    (case ci_LineError => k_is)
    (case ct_LineError => k_is)
    (case ci_BadRules => k_is)
    (case ct_BadRules => k_is)
    (case cs_BadRules => k_is)
    (case ci_BadRuns => k_is)
    (case ct_BadRuns => k_is)
    (case cs_BadRuns => k_is)
    (case ci_BadTask => k_is)
    (case ct_BadTask => k_is)
    (case cs_BadTask => k_is)
    (case ci_BadTasks => k_is)
    (case ct_BadTasks => k_is)
    (case cs_BadTasks => k_is)
    (case ci_BadText => k_is)
    (case ct_BadText => k_is)
    (case cs_BadText => k_is)
    (case ci_BadUntil => k_is)
    (case ct_BadUntil => k_is)
    (case cs_BadUntil => k_is)
    (case ci_NotThere => k_is)
    (case ct_NotThere => k_is)
    (case cs_NotThere => k_is)
    (case ci_Ready => k_is)
    (case ct_Ready => k_is)
    (case cs_Ready => k_is)
    (case ci_There => k_is)
    (case ct_There => k_is)
    (case cs_There => k_is)
    (case ci_Waits => k_is)
    (case ct_Waits => k_is)
    (case cs_Waits => k_is)
    (case xn => k_is)
    (case xt => k_is)
    (case sb_BadTask_BadRules => k_is)
    (case sb_BadTask_BadRuns => k_is)
    (case sb_BadTask_BadTasks => k_is)
    (case sb_BadTask_BadText => k_is)
    (case sb_BadTask_BadUntil => k_is)
    (case sb_BadTask_NotThere => k_is)
    (case sb_BadTask_Ready => k_is)
    (case sb_BadTask_There => k_is)
    (case sb_BadTask_Waits => k_is)
    (case sv_BadTask => k_is)
    (case sl_BadTask => k_is)
    (case xg_BadTask => k_is)
    (case xk_BadTask => k_is)
    (case xb_BadTask => k_is)
    (case xd_BadTask => k_is)
    (case xa_BadTask => k_is)
    (case xm_BadTask => k_is)
    (case kp_BadTask => k_is)
    (case ow_BadTask => k_exc)
    (case sb_NotThere_BadRules => k_is)
    (case sb_NotThere_BadRuns => k_is)
    (case sb_NotThere_BadTask => k_is)
    (case sb_NotThere_BadTasks => k_is)
    (case sb_NotThere_BadText => k_is)
    (case sb_NotThere_BadUntil => k_is)
    (case sb_NotThere_Ready => k_is)
    (case sb_NotThere_There => k_is)
    (case sb_NotThere_Waits => k_is)
    (case sv_NotThere => k_is)
    (case sl_NotThere => k_is)
    (case xg_NotThere => k_is)
    (case xk_NotThere => k_is)
    (case xb_NotThere => k_is)
    (case xd_NotThere => k_is)
    (case xa_NotThere => k_is)
    (case xm_NotThere => k_is)
    (case kp_NotThere => k_is)
    (case ow_NotThere => k_exc)
    (case sb_Ready_BadRules => k_is)
    (case sb_Ready_BadRuns => k_is)
    (case sb_Ready_BadTask => k_is)
    (case sb_Ready_BadTasks => k_is)
    (case sb_Ready_BadText => k_is)
    (case sb_Ready_BadUntil => k_is)
    (case sb_Ready_NotThere => k_is)
    (case sb_Ready_There => k_is)
    (case sb_Ready_Waits => k_is)
    (case sv_Ready => k_is)
    (case sl_Ready => k_is)
    (case xg_Ready => k_is)
    (case xk_Ready => k_is)
    (case xb_Ready => k_is)
    (case xd_Ready => k_is)
    (case xa_Ready => k_is)
    (case xm_Ready => k_is)
    (case kp_Ready => k_is)
    (case ow_Ready => k_exc)
    (case sb_There_BadRules => k_is)
    (case sb_There_BadRuns => k_is)
    (case sb_There_BadTask => k_is)
    (case sb_There_BadTasks => k_is)
    (case sb_There_BadText => k_is)
    (case sb_There_BadUntil => k_is)
    (case sb_There_NotThere => k_is)
    (case sb_There_Ready => k_is)
    (case sb_There_Waits => k_is)
    (case sv_There => k_is)
    (case sl_There => k_is)
    (case xg_There => k_is)
    (case xk_There => k_is)
    (case xb_There => k_is)
    (case xd_There => k_is)
    (case xa_There => k_is)
    (case xm_There => k_is)
    (case kp_There => k_is)
    (case ow_There => k_exc)
    (case sb_Waits_BadRules => k_is)
    (case sb_Waits_BadRuns => k_is)
    (case sb_Waits_BadTask => k_is)
    (case sb_Waits_BadTasks => k_is)
    (case sb_Waits_BadText => k_is)
    (case sb_Waits_BadUntil => k_is)
    (case sb_Waits_NotThere => k_is)
    (case sb_Waits_Ready => k_is)
    (case sb_Waits_There => k_is)
    (case sv_Waits => k_is)
    (case sl_Waits => k_is)
    (case xg_Waits => k_is)
    (case xk_Waits => k_is)
    (case xb_Waits => k_is)
    (case xd_Waits => k_is)
    (case xa_Waits => k_is)
    (case xm_Waits => k_is)
    (case kp_Waits => k_is)
    (case ow_Waits => k_exc)
    (case z_len => k_is)
    (case z_isinstance => k_is)
    (case z_min => k_is)
    (case z_range => k_is)
    (case z_enumerate => k_is)
    (case z_int => k_is)
    (case z_bool => k_is)
    (case z_str => k_is)
    (case z_tuple => k_is)
    (case z_list => k_is)
    (case z_ValueError => k_is)
    (case q_MOST_LINES => k_is)
    (case q_MOST_QUANTUM => k_is)
    (case q_MOST_SHARE => k_is)
    (case q_LEAST_BOOST => k_is)
    (case q_MOST_BOOST => k_is)
    (case q_KEPT => k_is)
    (case q_ANEW => k_is)
    (case q_LINES => k_is)
    (case q_BOOST => k_is)
    (case q_CHARGE => k_is)
    (case q_MOST_TASK => k_is)
    (case tl_law_is_refused => k_is)
    (case tp_law_is_refused => rfl)
    (case th_law_is_refused => kernel_rfl)
    (case tn_law_is_refused => kernel_rfl)
    (case tt_law_is_refused => exact hT _ (by decide))


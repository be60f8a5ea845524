import PyProof.Rows.All
import Wide.All
import OpenK.AllK
import Wide.FinOn
import HandS.ForMost
import HandS.More
import HandS.SetFor
import HandS.Style
import HandS.IsInst
import HandS.Wide
import HandS.Walk
import HandS.Steps
import HandS.Conv
import HandS.EndBits
import HandS.TupAny
import KE.GoesEnum
import KE.GoesMore
import PyProof.P3Eq
import HandS.SortInts
import KE.KTupSum
import KE.DataMinMax
import HandS.TupLe
import HandS.Text
import HandS.RaiseMore
import HandS.Defaults
import HandS.NoneIn
import HandS.SetKeys
import KE.KUnpackStar
import PySem.Challenge.RW_quantalines_k13_rules_written
set_option Elab.async false
set_option maxRecDepth 100000
set_option linter.all false
set_option maxHeartbeats 4000000
/-! Q0: readings by head, one rule a combinator; calls by bundles; new rules (a product with a small factor, xs[i] op= e). -/
namespace Qn
open PySem L2

/-! ### named readings by values -/
def cLen (K : PySem.W.Frag) : List V → Hp → VK → Prop := fun xs H Q => ∃ p ys, xs = [.ref p] ∧ (SqL K H p ys ∨ SqT K H p ys) ∧ Q (.int ys.length) H
def cMin2 : List V → Hp → VK → Prop := fun xs H Q => ∃ i j, xs = [.int i, .int j] ∧ Q (.int (if j < i then j else i)) H
def cMax2 : List V → Hp → VK → Prop := fun xs H Q => ∃ i j, xs = [.int i, .int j] ∧ Q (.int (if j > i then j else i)) H
def cLenD : List V → Hp → VK → Prop := fun xs H Q => ∃ a kvs, xs = [V.ref a] ∧ H a = some (.dK kvs) ∧ Q (.int kvs.length) H
def cInt : List V → Hp → VK → Prop := fun xs H Q => (∃ i, xs = [.int i] ∧ Q (.int i) H) ∨ ∃ k, xs = [.bl k] ∧ Q (.int (if k then 1 else 0)) H
def cLst (K : PySem.W.Frag) : List V → Hp → VK → Prop := fun xs H Q => ∃ p ys, xs = [.ref p] ∧ (SqL K H p ys ∨ SqT K H p ys) ∧ ∀ l, H l = none → Q (.ref l) (upd H l (.lst ys))
def cTup (K : PySem.W.Frag) : List V → Hp → VK → Prop := fun xs H Q => ∃ p ys, xs = [.ref p] ∧ ((SqL K H p ys ∧ ∀ l, H l = none → Q (.ref l) (upd H l (.tup ys))) ∨ (SqT K H p ys ∧ Q (.ref p) H))
def cSortD : List V → Hp → VK → Prop := fun xs H Q => ∃ (a : Addr) (kvs : List (Key × V)) (ks : List Int), xs = [.ref a] ∧ Rd H a (.dK kvs) ∧ kvs.map (·.1) = ks.map Sum.inl ∧ ks.length < 64 ∧
  ∀ (ys : List Int) (p : Addr), ys.Perm ks → ys.Pairwise (· ≤ ·) → H p = none → Q (.ref p) (upd H p (.lst (ys.map V.int)))
def oMul : R2 := rI IntMulOk fun i j => .int (i * j)
def oDivW : R2 := rI CDivW fun i j => .int (i / j)
def oMod : R2 := rI (fun _ j => 0 < j) fun i j => .int (i % j)
def oAdd : R2 := rI0 fun i j => .int (i + j)
def oSub : R2 := rI0 fun i j => .int (i - j)
def oLt : R2 := rI0 fun i j => .bl (decide (i < j))
def oLe : R2 := rI0 fun i j => .bl (decide (i ≤ j))
def oGt : R2 := rI0 fun i j => .bl (decide (j < i))
def oGe : R2 := rI0 fun i j => .bl (decide (j ≤ i))
section
variable {X : Cx}
theorem qr_len : CallR X (.builtin "len") (cLen X.K) := call_len_seq
theorem qr_min2 (hc : X.calm = true) : CallR X (.builtin "min") cMin2 := call_min2 hc
theorem qr_max2 (hc : X.calm = true) : CallR X (.builtin "max") cMax2 := call_max2 hc
theorem qr_lenD : CallR X (.builtin "len") cLenD := call_lenD
theorem qr_int : CallR X (.type "int") cInt := call_int1
theorem qr_list : CallR X (.type "list") (cLst X.K) := call_list_of
theorem qr_tuple : CallR X (.type "tuple") (cTup X.K) := call_tuple_of
theorem qr_sortD (hc : X.calm = true) : CallR X (.builtin "sorted") cSortD := call_sortedDI hc
theorem qo_mul : OpR X (binaryOp .Mult) oMul := opI fun _ _ _ _ _ _ _ hc q => PyProof.Rows.mul_int q hc
theorem qo_div : OpR X (binaryOp .FloorDiv) oDivW := op_fdivW
theorem qo_mod : OpR X (binaryOp .Mod) oMod := op_mod
theorem qo_add : OpR X (binaryOp .Add) oAdd := op_add
theorem qo_sub : OpR X (binaryOp .Sub) oSub := op_sub
theorem qo_lt : OpR X (compareOp .Lt) oLt := op_lt
theorem qo_le : OpR X (compareOp .LtE) oLe := op_le
theorem qo_gt : OpR X (compareOp .Gt) oGt := op_gt
theorem qo_ge : OpR X (compareOp .GtE) oGe := op_ge
end

/-! ### readings in parts: what a value's use asks -/
def kFld (K : PySem.W.Frag) (f : Str) : V → Hp → VK → Prop := fun x H Q => ∃ a C dx fs v, x = .ref a ∧ H a = some (.ins C dx fs) ∧ Cls K C ∧ NoAttr K C f ∧ fs.lookup f = some v ∧ Q v H
def kMeth (C : Addr) (m : Str) (sp : Sp) (dvs : List V) (E : XK) (σ : St) (t : TA) : V → Hp → VK → Prop := fun x H Q => ∃ a dx fs, x = .ref a ∧ H a = some (.ins C dx fs) ∧ fs.lookup m = none ∧ t σ H fun vs H2 => sp (x :: (vs ++ dvs)) H2 Q E
def kSetF (K : PySem.W.Frag) (f : Str) (y : V) : V → Hp → (Hp → Prop) → Prop := fun x H R => ∃ a C dx fs, x = .ref a ∧ H a = some (.ins C dx fs) ∧ Cls K C ∧ NoAttr K C f ∧ fs.length < 1000 ∧ R (upd H a (.ins C dx (putF f y fs)))
def kBool : V → Hp → (Bool → Hp → Prop) → Prop := fun x H Q => ∃ k, x = .bl k ∧ Q k H
def kIf (b : Bool) (A B : Prop) : Prop := if b = true then A else B
def kTup (xs : List V) (H : Hp) (Q : VK) : Prop := xs.length ≤ sizeLine ∧ ∀ p, H p = none → Q (.ref p) (upd H p (.tup xs))
def kLst (xs : List V) (H : Hp) (Q : VK) : Prop := xs.length ≤ sizeLine ∧ ∀ p, H p = none → Q (.ref p) (upd H p (.lst xs))
def kIL (K : PySem.W.Frag) : V → Hp → (It → Hp → Prop) → Prop := fun x H R => ∃ a, x = .ref a ∧ (∃ xs, SqL K H a xs) ∧ R (Itl K a) H
def kIT (K : PySem.W.Frag) : V → Hp → (It → Hp → Prop) → Prop := fun x H R => ∃ a, x = .ref a ∧ (∃ xs, SqT K H a xs) ∧ R (Itt K a) H
def kIR1 : List V → Hp → (It → Hp → Prop) → Prop := fun vs H R => ∃ j : Int, vs = [.int j] ∧ -(2 ^ 62) ≤ j ∧ j < 2 ^ 62 ∧ R (Itr 0 j.toNat) H
def kIR2 : List V → Hp → (It → Hp → Prop) → Prop := fun vs H R => ∃ i j : Int, vs = [.int i, .int j] ∧ (-(2 ^ 62) ≤ i ∧ i < 2 ^ 62 ∧ -(2 ^ 62) ≤ j ∧ j < 2 ^ 62) ∧ R (Itr i (j - i).toNat) H
def kFor (J : It) (g : TG) (tb : TS) (D : Ends) (σ : St) (H : Hp) : Prop := ∃ W : Nat → Nat → St → Hp → Prop, (∃ m, W 0 m σ H) ∧ ∀ i m σ H, W i m σ H →
  (J.stop i H ∧ D.nx σ H) ∨ (J.go i H ∧ ∃ N : St → Hp → Prop, (∀ σ' H', N σ' H' → ∃ m', m' < m ∧ W (i + 1) m' σ' H') ∧ ∀ x H', J.yld i H x H' → g x σ H' fun σ2 H2 => tb { D with nx := N, ct := N, bk := D.nx } σ2 H2)
def kDGet : V → V → Hp → VK → Prop := fun x y H Q => ∃ a v, x = .ref a ∧ DGet H a y (some v) ∧ Q v H
def kDIn : V → V → Hp → VK → Prop := fun x y H Q => ∃ a o, x = .ref a ∧ DGet H a y o ∧ Q (.bl o.isSome) H
def kDNotIn : V → V → Hp → VK → Prop := fun x y H Q => ∃ a o, x = .ref a ∧ DGet H a y o ∧ Q (.bl (!o.isSome)) H
def kDPut (v : V) : V → V → Hp → (Hp → Prop) → Prop := fun x y H R => ∃ a H4, x = .ref a ∧ DPut H a y v H4 ∧ R H4
def kBM (K : PySem.W.Frag) (T : String) (r : V → List V → Hp → VK → Prop) (σ : St) (t : TA) : V → Hp → VK → Prop := fun x H Q => tyV K T x H ∧ t σ H fun xs H2 => r x xs H2 Q
def kPop1 (ty : TE) (σ : St) : V → Hp → VK → Prop := fun x H Q => ∃ a, x = .ref a ∧ IsD H a ∧ ty σ H fun y H2 => ∃ kvs k v, H2 a = some (.dK kvs) ∧ y = kV k ∧ valV kvs k = some v ∧ Q v (upd H2 a (.dK (dropK kvs k)))
def kPart : V → Hp → (Option Int → Hp → Prop) → Prop := fun x H Q => ∃ i, x = .int i ∧ Q (some i) H
def kUnT (K : PySem.W.Frag) (n : Nat) (t : TGs) : V → St → Hp → (St → Hp → Prop) → Prop := fun v σ H Q => ∃ a xs, v = .ref a ∧ SqT K H a xs ∧ xs.length = n ∧ t xs σ H Q
def kMake (C : Addr) (sp : Sp) (E : XK) (vs : List V) (H : Hp) (Q : VK) : Prop := ∀ x dx, H x = none → H dx = none → dx ≠ x → sp (.ref x :: vs) (upd (upd H dx (.own x)) x (.ins C dx [])) (fun v H2 => v = .non ∧ Q (.ref x) H2) E

section
variable {K : PySem.W.Frag} {σ : St} {H H' : Hp} {Q : VK} {R : Hp → Prop} {D : Ends} {ta tb tc te tv td ty : TE} {tr t : TA} {t1 t2 ts : TS} {te' : TE} {c c1 c2 : TT} {P : Bool → Hp → Prop} {x y z v : V} {i j : Int} {a C dx p : Addr} {fs : List (Str × V)} {f m : Str} {xs ys : List V} {kvs : List (Key × V)}
theorem upd_old {o o' : HO} (h : H a = some o) (hp : H p = none) : upd H p o' a = some o := by
  rw [upd_ne (ne_of_none h hp)]; exact h
theorem upd_oth {o o' : HO} (h : H a = some o) (hp : a ≠ p) : upd H p o' a = some o := by
  rw [upd_ne hp]; exact h
theorem upd_free {o' : HO} {b : Addr} (h : H b = none) (hp : b ≠ p) : upd H p o' b = none := by
  rw [upd_ne hp]; exact h
/-! values -/
theorem r_var {n : Nat} (h : σ[n]? = some (some v)) (k : Q v H) : tVar n σ H Q := ⟨v, h, k⟩
theorem r_c (k : Q v H) : tC v σ H Q := k
theorem r_op {r : R2} (k : ta σ H fun x H1 => tb σ H1 fun y H2 => r x y H2 Q) : tOp r ta tb σ H Q := k
theorem r_un {r : V → Hp → VK → Prop} (k : ta σ H fun x H1 => r x H1 Q) : tUn r ta σ H Q := k
theorem r_add (k : Q (.int (i + j)) H) : oAdd (.int i) (.int j) H Q := ⟨i, j, rfl, rfl, k⟩
theorem r_sub (k : Q (.int (i - j)) H) : oSub (.int i) (.int j) H Q := ⟨i, j, rfl, rfl, k⟩
theorem r_lt (k : Q (.bl (decide (i < j))) H) : oLt (.int i) (.int j) H Q := ⟨i, j, rfl, rfl, k⟩
theorem r_le (k : Q (.bl (decide (i ≤ j))) H) : oLe (.int i) (.int j) H Q := ⟨i, j, rfl, rfl, k⟩
theorem r_gt (k : Q (.bl (decide (j < i))) H) : oGt (.int i) (.int j) H Q := ⟨i, j, rfl, rfl, k⟩
theorem r_ge (k : Q (.bl (decide (j ≤ i))) H) : oGe (.int i) (.int j) H Q := ⟨i, j, rfl, rfl, k⟩
theorem r_mul (h : IntMulOk i j) (k : Q (.int (i * j)) H) : oMul (.int i) (.int j) H Q := ⟨i, j, rfl, rfl, h, k⟩
theorem r_div (h : CDivW i j) (k : Q (.int (i / j)) H) : oDivW (.int i) (.int j) H Q := ⟨i, j, rfl, rfl, h, k⟩
theorem r_mod (h : 0 < j) (k : Q (.int (i % j)) H) : oMod (.int i) (.int j) H Q := ⟨i, j, rfl, rfl, h, k⟩
theorem r_neg (k : Q (.int (-i)) H) : rU (fun i => .int (-i)) (.int i) H Q := ⟨i, rfl, k⟩
theorem r_eqI (k : Q (.bl (decide (i = j))) H) : rEq (.int i) (.int j) H Q := ⟨rfl, by
  have e : decide (V.int i = V.int j) = decide (i = j) := by simp
  rw [e]; exact k⟩
theorem r_neI (k : Q (.bl (!decide (i = j))) H) : rNe (.int i) (.int j) H Q := ⟨rfl, by
  have e : decide (V.int i = V.int j) = decide (i = j) := by simp
  rw [e]; exact k⟩
theorem r_eqS {u w : Str} (k : Q (.bl (decide (u = w))) H) : rEq (.str u) (.str w) H Q := ⟨rfl, by
  have e : decide (V.str u = V.str w) = decide (u = w) := by simp
  rw [e]; exact k⟩
theorem r_neS {u w : Str} (k : Q (.bl (!decide (u = w))) H) : rNe (.str u) (.str w) H Q := ⟨rfl, by
  have e : decide (V.str u = V.str w) = decide (u = w) := by simp
  rw [e]; exact k⟩
theorem r_isN (k : Q (.bl (decide (x = .non))) H) : rIsN x .non H Q := ⟨rfl, k⟩
theorem r_notN (k : Q (.bl (!decide (x = .non))) H) : rNotN x .non H Q := ⟨rfl, k⟩
theorem r_eqD {d e : PyData} (h1 : Dp K H x d) (h2 : Dp K H y e) (s1 : SeqAt.shaped d = true) (s2 : SeqAt.shaped e = true) (k : Q (.bl (PyData.eqv d e)) H) : rEqD K x y H Q := ⟨d, e, h1, h2, s1, s2, k⟩
theorem r_neD {d e : PyData} (h1 : Dp K H x d) (h2 : Dp K H y e) (s1 : SeqAt.shaped d = true) (s2 : SeqAt.shaped e = true) (k : Q (.bl (!PyData.eqv d e)) H) : rNeD K x y H Q := ⟨d, e, h1, h2, s1, s2, k⟩
theorem r_in {neg : Bool} (h : SqL K H p xs ∨ SqT K H p xs) (h1 : flatV x = true) (h2 : xs.all flatV = true) (k : Q (.bl (if neg then !inV x xs else inV x xs)) H) : rIn K neg x (.ref p) H Q := ⟨p, xs, rfl, h, h1, h2, k⟩
theorem r_ixL (h : SqL K H p xs) (e : atI xs i = some v) (k : Q v H) : rIxL K (.ref p) (.int i) H Q := ⟨p, xs, i, v, rfl, rfl, h, e, k⟩
theorem r_ixT (h : SqT K H p xs) (e : atI xs i = some v) (k : Q v H) : rIxT K (.ref p) (.int i) H Q := ⟨p, xs, i, v, rfl, rfl, h, e, k⟩
theorem r_fld (k : ta σ H fun x H1 => kFld K f x H1 Q) : tFld K ta f σ H Q := k
theorem r_kFld (h : H a = some (.ins C dx fs)) (c : Cls K C) (n : NoAttr K C f) (l : fs.lookup f = some v) (k : Q v H) : kFld K f (.ref a) H Q := ⟨a, C, dx, fs, v, rfl, h, c, n, l, k⟩
theorem r_nil {Q : List V → Hp → Prop} (k : Q [] H) : tNil σ H Q := k
theorem r_cons {Q : List V → Hp → Prop} (k : ta σ H fun x H1 => tr σ H1 fun xs H2 => Q (x :: xs) H2) : tCons ta tr σ H Q := k
theorem r_tup (k : t σ H fun xs H1 => kTup xs H1 Q) : tTup t σ H Q := k
theorem r_lst (k : t σ H fun xs H1 => kLst xs H1 Q) : tLst t σ H Q := k
theorem r_kTup (h : xs.length ≤ 1000) (k : ∀ p, H p = none → Q (.ref p) (upd H p (.tup xs))) : kTup xs H Q := ⟨Nat.le_trans h (by decide), k⟩
theorem r_kLst (h : xs.length ≤ 1000) (k : ∀ p, H p = none → Q (.ref p) (upd H p (.lst xs))) : kLst xs H Q := ⟨Nat.le_trans h (by decide), k⟩
theorem r_if (k : c σ H fun b H1 => kIf b (ta σ H1 Q) (tb σ H1 Q)) : tIf c ta tb σ H Q := k
theorem r_andV (k : ta σ H fun x H1 => kBool x H1 fun b H2 => kIf b (tb σ H2 Q) (Q (.bl false) H2)) : tAndV ta tb σ H Q := k
theorem r_orV (k : ta σ H fun x H1 => kBool x H1 fun b H2 => kIf b (Q (.bl true) H2) (tb σ H2 Q)) : tOrV ta tb σ H Q := k
theorem r_notV (k : ta σ H fun x H1 => kBool x H1 fun b H2 => Q (.bl (!b)) H2) : tNotV ta σ H Q := k
theorem r_chain {r r' : R2} (k : ta σ H fun x H1 => tb σ H1 fun y H2 => r x y H2 fun z H3 => kBool z H3 fun b H4 => kIf b (tc σ H4 fun w H5 => r' y w H5 Q) (Q (.bl false) H4)) : tChain r r' ta tb tc σ H Q := k
/-! tests -/
theorem r_test (k : te σ H fun x H1 => kBool x H1 P) : tTest te σ H P := k
theorem r_B (k : te σ H fun x H1 => kBool x H1 P) : tB te σ H P := k
theorem r_kBool {b : Bool} (k : P b H) : kBool (.bl b) H P := ⟨b, rfl, k⟩
theorem r_not (k : c σ H fun b H1 => P (!b) H1) : tNot c σ H P := k
theorem r_and (k : c1 σ H fun b H1 => kIf b (c2 σ H1 P) (P false H1)) : tAnd c1 c2 σ H P := k
theorem r_or (k : c1 σ H fun b H1 => kIf b (P true H1) (c2 σ H1 P)) : tOr c1 c2 σ H P := k
theorem r_kIf {b : Bool} {A B : Prop} (h1 : b = true → A) (h2 : b = false → B) : kIf b A B := by
  cases b with
  | true => exact h1 rfl
  | false => exact h2 rfl
theorem r_kT {b : Bool} {A B : Prop} (h : b = true) (k : A) : kIf b A B := by subst h; exact k
theorem r_kF {b : Bool} {A B : Prop} (h : b = false) (k : B) : kIf b A B := by subst h; exact k
theorem r_kTT {A B : Prop} (k : A) : kIf true A B := k
theorem r_kFF {A B : Prop} (k : B) : kIf false A B := k
theorem r_yes (k : P true H) : tYes σ H P := k
/-! calls -/
theorem r_call {sp : Sp} {dvs : List V} {E : XK} (k : t σ H fun vs H1 => sp (vs ++ dvs) H1 Q E) : tCall sp dvs E t σ H Q := k
theorem r_meth {sp : Sp} {dvs : List V} {E : XK} (k : ta σ H fun x H1 => kMeth C m sp dvs E σ t x H1 Q) : tMeth C m sp dvs E ta t σ H Q := k
theorem r_kMeth {sp : Sp} {dvs : List V} {E : XK} (h : H a = some (.ins C dx fs)) (l : fs.lookup m = none) (k : t σ H fun vs H2 => sp (.ref a :: (vs ++ dvs)) H2 Q E) : kMeth C m sp dvs E σ t (.ref a) H Q := ⟨a, dx, fs, rfl, h, l, k⟩
theorem r_make {sp : Sp} {E : XK} (k : t σ H fun vs H1 => kMake C sp E (vs ++ []) H1 Q) : tMake C sp [] E t σ H Q := k
theorem r_CB {r : List V → Hp → VK → Prop} (k : t σ H fun vs H1 => r vs H1 Q) : tCB r t σ H Q := k
theorem r_lenL (h : SqL K H p xs) (k : Q (.int xs.length) H) : cLen K [.ref p] H Q := ⟨p, xs, rfl, .inl h, k⟩
theorem r_lenT (h : SqT K H p xs) (k : Q (.int xs.length) H) : cLen K [.ref p] H Q := ⟨p, xs, rfl, .inr h, k⟩
theorem r_lenD (h : H p = some (.dK kvs)) (k : Q (.int kvs.length) H) : cLenD [.ref p] H Q := ⟨p, kvs, rfl, h, k⟩
theorem r_min2 (k : Q (.int (if j < i then j else i)) H) : cMin2 [.int i, .int j] H Q := ⟨i, j, rfl, k⟩
theorem r_max2 (k : Q (.int (if j > i then j else i)) H) : cMax2 [.int i, .int j] H Q := ⟨i, j, rfl, k⟩
theorem r_intB {b : Bool} (k : Q (.int (if b then 1 else 0)) H) : cInt [.bl b] H Q := .inr ⟨b, rfl, k⟩
theorem r_intI (k : Q (.int i) H) : cInt [.int i] H Q := .inl ⟨i, rfl, k⟩
theorem r_listL (h : SqL K H p xs) (k : ∀ l, H l = none → Q (.ref l) (upd H l (.lst xs))) : cLst K [.ref p] H Q := ⟨p, xs, rfl, .inl h, k⟩
theorem r_listT (h : SqT K H p xs) (k : ∀ l, H l = none → Q (.ref l) (upd H l (.lst xs))) : cLst K [.ref p] H Q := ⟨p, xs, rfl, .inr h, k⟩
theorem r_tupleL (h : SqL K H p xs) (k : ∀ l, H l = none → Q (.ref l) (upd H l (.tup xs))) : cTup K [.ref p] H Q := ⟨p, xs, rfl, .inl ⟨h, k⟩⟩
theorem r_tupleT (h : SqT K H p xs) (k : Q (.ref p) H) : cTup K [.ref p] H Q := ⟨p, xs, rfl, .inr ⟨h, k⟩⟩
theorem r_BM {T : String} {r : V → List V → Hp → VK → Prop} (k : ta σ H fun x H1 => kBM K T r σ t x H1 Q) : tBM K T r ta t σ H Q := k
theorem r_BM0 {T : String} {r : V → List V → Hp → VK → Prop} (k : ta σ H fun x H1 => kBM K T r σ tNil x H1 Q) : tBM0 K T r ta σ H Q := k
theorem r_kBML {r : V → List V → Hp → VK → Prop} (h : SqL K H p xs) (k : t σ H fun ys H2 => r (.ref p) ys H2 Q) : kBM K "list" r σ t (.ref p) H Q := ⟨.inl ⟨rfl, xs, h⟩, k⟩
theorem r_kBMD {r : V → List V → Hp → VK → Prop} (h : H p = some (.dK kvs)) (k : t σ H fun ys H2 => r (.ref p) ys H2 Q) : kBM K "dict" r σ t (.ref p) H Q := ⟨.inr (.inr (.inl ⟨rfl, .inl ⟨kvs, h⟩⟩)), k⟩
theorem r_kBMS {r : V → List V → Hp → VK → Prop} {u : Str} (k : t σ H fun ys H2 => r (.str u) ys H2 Q) : kBM K "str" r σ t (.str u) H Q := ⟨rfl, k⟩
theorem r_append (h : H p = some (.lst xs)) (hz : xs.length < 100000) (k : Q .non (upd H p (.lst (xs ++ [v])))) : rAppend (.ref p) [v] H Q := ⟨p, xs, v, rfl, rfl, h, Nat.lt_of_lt_of_le hz (by decide), k⟩
theorem r_clear (h : H p = some (.lst xs)) (k : Q .non (upd H p (.lst []))) : rClear (.ref p) [] H Q := ⟨p, xs, rfl, rfl, h, k⟩
theorem r_extend {b : Addr} (h : H p = some (.lst xs)) (h2 : H b = some (.lst ys)) (hz : xs.length + ys.length ≤ 100000) (k : Q .non (upd H p (.lst (xs ++ ys)))) : rExtend (.ref p) [.ref b] H Q := ⟨p, b, xs, ys, rfl, rfl, h, h2, Nat.le_trans hz (by decide), k⟩
theorem r_sl {r : V → Option Int → Option Int → Hp → VK → Prop} {tl th : TO} (k : te σ H fun x H1 => tl σ H1 fun l H2 => th σ H2 fun u H3 => r x l u H3 Q) : tSl r te tl th σ H Q := k
theorem r_part {Q : Option Int → Hp → Prop} (k : te σ H fun x H1 => kPart x H1 Q) : tPart te σ H Q := k
theorem r_kPart {Q : Option Int → Hp → Prop} (k : Q (some i) H) : kPart (.int i) H Q := ⟨i, rfl, k⟩
theorem r_noPart {Q : Option Int → Hp → Prop} (k : Q none H) : tNoPart σ H Q := k
theorem r_slL {lo hi : Option Int} (h : SqL K H a xs) (k : ∀ p, H p = none → Q (.ref p) (upd H p (.lst (cutV xs lo hi)))) : rSlL K (.ref a) lo hi H Q := ⟨a, xs, rfl, h, k⟩
theorem r_cat {b l : Addr} (h : H l = some (.lst xs)) (h2 : H b = some (.lst ys)) (hz : xs.length + ys.length ≤ 100000) (k : ∀ p, H p = none → Q (.ref p) (upd H p (.lst (xs ++ ys)))) : rCat (.ref l) (.ref b) H Q := ⟨l, b, xs, ys, rfl, rfl, h, h2, Nat.le_trans hz (by decide), k⟩
theorem r_rep1 {l : Addr} {n : Nat} (h : H l = some (.lst [v])) (hn : n ≤ 100000) (k : ∀ p, H p = none → Q (.ref p) (upd H p (.lst (List.replicate n v)))) : rRep (.ref l) (.int n) H Q := by
  refine ⟨l, n, [v], rfl, rfl, h, by omega, by omega, ?_, fun p hp => ?_⟩
  · have e : ((n : Int)).toNat = n := by omega
    rw [e]
    show 1 * n ≤ sizeLine
    rw [Nat.one_mul]
    exact Nat.le_trans hn (by decide)
  · have e : (List.replicate ((n : Int)).toNat [v]).flatten = List.replicate n v := by
      have e1 : ((n : Int)).toNat = n := by omega
      rw [e1]; simp
    rw [e]; exact k p hp
theorem r_dnew (k : ∀ p, H p = none → Q (.ref p) (upd H p (.dK []))) : tDNewK σ H Q := k
theorem r_dget (k : td σ H fun x H1 => ty σ H1 fun y H2 => kDGet x y H2 Q) : tDGet td ty σ H Q := k
theorem r_din (k : ty σ H fun y H1 => td σ H1 fun x H2 => kDIn x y H2 Q) : tDIn ty td σ H Q := k
theorem r_dnotin (k : ty σ H fun y H1 => td σ H1 fun x H2 => kDNotIn x y H2 Q) : tDNotIn ty td σ H Q := k
theorem r_kDGetI (h : H a = some (.dK kvs)) (e : valV kvs (.inl i) = some v) (k : Q v H) : kDGet (.ref a) (.int i) H Q := ⟨a, v, rfl, by rw [← e]; exact DGet.k (k := Sum.inl i) h, k⟩
theorem r_kDGetS {u : Str} (h : H a = some (.dK kvs)) (e : valV kvs (.inr u) = some v) (k : Q v H) : kDGet (.ref a) (.str u) H Q := ⟨a, v, rfl, by rw [← e]; exact DGet.k (k := Sum.inr u) h, k⟩
theorem r_kDInI (h : H a = some (.dK kvs)) (k : Q (.bl (valV kvs (.inl i)).isSome) H) : kDIn (.ref a) (.int i) H Q := ⟨a, _, rfl, DGet.k (k := Sum.inl i) h, k⟩
theorem r_kDNotInI (h : H a = some (.dK kvs)) (k : Q (.bl (!(valV kvs (.inl i)).isSome)) H) : kDNotIn (.ref a) (.int i) H Q := ⟨a, _, rfl, DGet.k (k := Sum.inl i) h, k⟩
theorem r_pop1 (k : td σ H fun x H1 => kPop1 ty σ x H1 Q) : tDPop1 td ty σ H Q := k
/-! statements -/
theorem r_seq (k : t1 { D with nx := t2 D } σ H) : tSeq t1 t2 D σ H := k
theorem r_next (k : D.nx σ H) : tNext D σ H := k
theorem r_asg {g : TG} (k : te σ H fun x H1 => g x σ H1 D.nx) : tAsg te g D σ H := k
theorem r_gName {n : Nat} {R : St → Hp → Prop} (k : R (σ.set n (some v)) H) : gName n v σ H R := k
theorem r_gTup {n : Nat} {u : TGs} {R : St → Hp → Prop} (k : kUnT K n u v σ H R) : gTup K n u v σ H R := k
theorem r_kUnT {n : Nat} {u : TGs} {R : St → Hp → Prop} (h : SqT K H a xs) (e : xs.length = n) (k : u xs σ H R) : kUnT K n u (.ref a) σ H R := ⟨a, xs, rfl, h, e, k⟩
theorem r_gCons {g : TG} {u : TGs} {R : St → Hp → Prop} (k : g v σ H fun σ' H' => u xs σ' H' R) : gCons g u (v :: xs) σ H R := ⟨v, xs, rfl, k⟩
theorem r_gNil {R : St → Hp → Prop} (k : R σ H) : gNil [] σ H R := ⟨rfl, k⟩
theorem r_gSub {ti : TE} {s : TSet} {R : St → Hp → Prop} (k : ta σ H fun o H1 => ti σ H1 fun i H2 => s o i v H2 fun H3 => R σ H3) : gSub ta ti s v σ H R := k
theorem r_setL {n : Nat} (h : H a = some (.lst xs)) (e : ixN xs.length i = some n) (k : R (upd H a (.lst (xs.set n v)))) : rSetL (.ref a) (.int i) v H R := ⟨a, xs, i, n, rfl, rfl, h, e, k⟩
theorem r_sFld (k : tv σ H fun y H1 => ta σ H1 fun x H2 => kSetF K f y x H2 fun H3 => D.nx σ H3) : sFld K ta tv f D σ H := k
theorem r_kSetF (h : H a = some (.ins C dx fs)) (c : Cls K C) (n : NoAttr K C f) (hl : fs.length < 1000) (k : R (upd H a (.ins C dx (putF f y fs)))) : kSetF K f y (.ref a) H R := ⟨a, C, dx, fs, rfl, h, c, n, hl, k⟩
theorem r_drop (k : te σ H fun _ H1 => D.nx σ H1) : tDrop te D σ H := k
theorem r_ret (k : te σ H D.rt) : tRet te D σ H := k
theorem r_retN (k : D.rt .non H) : tRetN D σ H := k
theorem r_ifS (k : c σ H fun b H1 => kIf b (t1 D σ H1) (t2 D σ H1)) : tIfS c t1 t2 D σ H := k
theorem r_sDPut (k : tv σ H fun v H1 => td σ H1 fun x H2 => ty σ H2 fun y H3 => kDPut v x y H3 fun H4 => D.nx σ H4) : sDPut td ty tv D σ H := by
  have : sDPut td ty tv D σ H = (tv σ H fun v H1 => td σ H1 fun x H2 => ty σ H2 fun y H3 => ∃ a H4, x = .ref a ∧ DPut H3 a y v H4 ∧ D.nx σ H4) := rfl
  rw [this]; exact k
theorem r_kDPutI (h : H a = some (.dK kvs)) (hl : kvs.length < 100000) (k : R (upd H a (.dK (putK kvs (.inl i) v)))) : kDPut v (.ref a) (.int i) H R := ⟨a, _, rfl, DPut.k (k := Sum.inl i) h (Nat.lt_of_lt_of_le hl (by decide)), k⟩
theorem r_kDPutS {u : Str} (h : H a = some (.dK kvs)) (hl : kvs.length < 100000) (k : R (upd H a (.dK (putK kvs (.inr u) v)))) : kDPut v (.ref a) (.str u) H R := ⟨a, _, rfl, DPut.k (k := Sum.inr u) h (Nat.lt_of_lt_of_le hl (by decide)), k⟩
theorem r_par {n1 n2 : Nat} (k : t σ H fun vs H1 => ∃ v w, vs = [v, w] ∧ D.nx ((σ.set n1 (some v)).set n2 (some w)) H1) : tPar n1 n2 t D σ H := k
theorem r_for {wi : TI} {g : TG} (k : wi σ H fun J H1 => kFor J g ts D σ H1) : tFor wi g ts D σ H := k
theorem r_iList {R : It → Hp → Prop} (k : te σ H fun x H1 => kIL K x H1 R) : iList K te σ H R := k
theorem r_iTup {R : It → Hp → Prop} (k : te σ H fun x H1 => kIT K x H1 R) : iTup K te σ H R := k
theorem r_kIL {R : It → Hp → Prop} (h : SqL K H a xs) (k : R (Itl K a) H) : kIL K (.ref a) H R := ⟨a, rfl, ⟨xs, h⟩, k⟩
theorem r_kIT {R : It → Hp → Prop} (h : SqT K H a xs) (k : R (Itt K a) H) : kIT K (.ref a) H R := ⟨a, rfl, ⟨xs, h⟩, k⟩
theorem r_iR1 {R : It → Hp → Prop} (k : t σ H fun vs H1 => kIR1 vs H1 R) : iRng1 t σ H R := k
theorem r_iR2 {R : It → Hp → Prop} (k : t σ H fun vs H1 => kIR2 vs H1 R) : iRng2 t σ H R := k
theorem r_kIR1 {R : It → Hp → Prop} (h : -1000000 ≤ j ∧ j ≤ 1000000) (k : R (Itr 0 j.toNat) H) : kIR1 [.int j] H R := ⟨j, rfl, by omega, by omega, k⟩
theorem r_kIR2 {R : It → Hp → Prop} (h : (-1000000 ≤ i ∧ i ≤ 1000000) ∧ -1000000 ≤ j ∧ j ≤ 1000000) (k : R (Itr i (j - i).toNat) H) : kIR2 [.int i, .int j] H R := ⟨i, j, rfl, by omega, k⟩
end

/-! ### loops by their walks -/
section
variable {J : It} {n : Nat} {G : Hp → Prop} {Y : Nat → Hp → V → Hp → Prop} {g : TG} {tb : TS} {D : Ends} {σ : St} {H : Hp}
theorem w_for (w : Walk J n G Y) (Pv : Nat → St → Hp → Prop) (h0 : Pv 0 σ H) (hG : ∀ i σ H, i ≤ n → Pv i σ H → G H)
    (hs : ∀ i x σ H H', i < n → Pv i σ H → Y i H x H' → g x σ H' fun σ2 H2 => tb { D with nx := Pv (i + 1), ct := Pv (i + 1), bk := D.nx } σ2 H2) (hd : ∀ σ H, Pv n σ H → D.nx σ H) : kFor J g tb D σ H :=
  for_it w Pv h0 hG hs hd
end

/-! ### calls by bundles -/
section
variable (P : Program) (w : World) (K : PySem.W.Frag) (mg : Str → Option Value) (base : Heap)
/-- a def of the module by its name: its promise, its place, how it binds -/
def Cal (CX : CXT) (k : Nat) (x : Str) (ps : List Str) (sp : Sp) : Prop := ∃ f fd, FnOk P w K mg base CX k f fd ps sp ∧ mg x = some (.ref f) ∧ PySem.W.keepIn K (.ref f) = true ∧ Binds K fd ps []
/-- a method of the class at C -/
def CalM (CX : CXT) (k : Nat) (C : Addr) (m : Str) (ps : List Str) (sp : Sp) : Prop := ∃ f fd, FnOk P w K mg base CX k f fd ps sp ∧ Meth K C m f ∧ Binds K fd ps [] ∧ Cls K C
/-- the class at C, called by the name x: its __init__ -/
def CalC (CX : CXT) (k : Nat) (C : Addr) (x : Str) (ps : List Str) (sp : Sp) : Prop := ∃ f fd, FnOk P w K mg base CX k f fd ps sp ∧ Mk K C f ∧ mg x = some (.ref C) ∧ Binds K fd ps []
end
section
variable {X : Cx} {CX : CXT} {k : Nat} {x m : Str} {ps : List Str} {sp : Sp} {E : XK} {p pos apos : Pos} {e o : Expr} {es : List Expr} {t : TA} {ta : TE} {C : Addr}
theorem q_call (F : Cal X.prog X.w X.K X.mg X.base CX k x ps sp) (hr : Room k X.A) (hx : Passes CX X E) (ha : PA X (e :: es) t) (hg : Gl X x := by rfl) (hdb : (x == ("__debug__" : Str)) = false := by decide)
    (he : starEach (e :: es) X.env = (false, eval e X.env) :: starEach es X.env := by rfl) (hpl : (backTo pos (starEach es X.env)).any (·.1) = false := by rfl) : PE X (.Call (.Name x p) (e :: es) [] pos) (tCall sp [] E t) := by
  obtain ⟨f, fd, F, g, kp, b⟩ := F
  exact pe_call F hr hg g kp b .nil hx ha hdb he hpl
theorem q_call0 (F : Cal X.prog X.w X.K X.mg X.base CX k x ps sp) (hr : Room k X.A) (hx : Passes CX X E) (hg : Gl X x := by rfl) (hdb : (x == ("__debug__" : Str)) = false := by decide) :
    PE X (.Call (.Name x p) [] [] pos) (tCall sp [] E tNil) := by
  obtain ⟨f, fd, F, g, kp, b⟩ := F
  exact pe_call0 F hr hg g kp b .nil hx hdb
theorem q_meth {pl : Sem Bool} (F : CalM X.prog X.w X.K X.mg X.base CX k C m ps sp) (hr : Room k X.A) (hx : Passes CX X E) (ho : PE X o ta) (ha : PA X (e :: es) t)
    (hst : starEach (e :: es) X.env = (false, eval e X.env) :: starEach es X.env := by rfl) (hpl : (backTo pos (starEach es X.env)).any (·.1) = false := by rfl)
    (ht : eval (.Call (.Attribute o m apos) (e :: es) [] pos) X.env = (do
      let rv ← eval o X.env
      standAt apos.atName
      let (g, own) ← holding [rv] (getMethod rv m pl)
      callWith pos g own (backTo pos (starEach (e :: es) X.env)) (backToKw pos (keywordEach [] X.env))) := by rfl) : PE X (.Call (.Attribute o m apos) (e :: es) [] pos) (tMeth C m sp [] E ta t) := by
  obtain ⟨f, fd, F, hm, b, c⟩ := F
  exact pe_meth ho c hm F hr b .nil hx ha hst hpl ht
theorem q_meth0 {pl : Sem Bool} (F : CalM X.prog X.w X.K X.mg X.base CX k C m ps sp) (hr : Room k X.A) (hx : Passes CX X E) (ho : PE X o ta)
    (ht : eval (.Call (.Attribute o m apos) [] [] pos) X.env = (do
      let rv ← eval o X.env
      standAt apos.atName
      let (g, own) ← holding [rv] (getMethod rv m pl)
      callWith pos g own (backTo pos (starEach [] X.env)) (backToKw pos (keywordEach [] X.env))) := by rfl) : PE X (.Call (.Attribute o m apos) [] [] pos) (tMeth C m sp [] E ta tNil) := by
  obtain ⟨f, fd, F, hm, b, c⟩ := F
  exact pe_meth0 ho c hm F hr b .nil hx ht
theorem q_make (F : CalC X.prog X.w X.K X.mg X.base CX k C x ps sp) (hr : Room (k + 1) X.A) (hx : Passes CX X E) (ha : PA X (e :: es) t) (hg : Gl X x := by rfl) (hdb : (x == ("__debug__" : Str)) = false := by decide)
    (he : starEach (e :: es) X.env = (false, eval e X.env) :: starEach es X.env := by rfl) (hpl : (backTo pos (starEach es X.env)).any (·.1) = false := by rfl) : PE X (.Call (.Name x p) (e :: es) [] pos) (tMake C sp [] E t) := by
  obtain ⟨f, fd, F, M, g, b⟩ := F
  exact pe_make M F hr hg g b .nil hx ha hdb he hpl
theorem q_make0 (F : CalC X.prog X.w X.K X.mg X.base CX k C x ps sp) (hr : Room (k + 1) X.A) (hx : Passes CX X E) (hg : Gl X x := by rfl) (hdb : (x == ("__debug__" : Str)) = false := by decide) :
    PE X (.Call (.Name x p) [] [] pos) (tMake C sp [] E tNil) := by
  obtain ⟨f, fd, F, M, g, b⟩ := F
  exact pe_make0 M F hr hg g b .nil hx hdb
end
/-! a constant of the module -/
section
variable {X : Cx} {pos : Pos} {x : Str}
theorem q_cI {i : Int} (h : ∃ t, X.mg x = some (.int i t)) (hg : Gl X x := by rfl) (hd : (x == ("__debug__" : Str)) = false := by decide) : PE X (.Name x pos) (tC (.int i)) := by
  obtain ⟨t, h⟩ := h
  exact pe_glob hg h ⟨t, rfl⟩ hd
theorem q_bty {T : String} (hg : Gl X x) (hm : X.mg x = none) (hv : bootBuiltins x = some (.type T)) (hn : x ≠ "__name__" := by decide) (hd : (x == ("__debug__" : Str)) = false := by decide) : PE X (.Name x pos) (tC (.ty T)) := pe_bltn hg hm hv rfl hn hd
theorem q_cS {u : Str} (h : ∃ t, X.mg x = some (.str u t)) (hg : Gl X x := by rfl) (hd : (x == ("__debug__" : Str)) = false := by decide) : PE X (.Name x pos) (tC (.str u)) := by
  obtain ⟨t, h⟩ := h
  exact pe_glob hg h ⟨t, rfl⟩ hd
end

/-! ### heaps: what a part of the program may change -/
/-- outside W all that was tracked stands; the tuples stand -/
def Frame (W : Addr → Prop) (H H' : Hp) : Prop := (∀ b o, H b = some o → ¬ W b → H' b = some o) ∧ ∀ b xs, H b = some (.tup xs) → H' b = some (.tup xs)
/-- from H, where W is owned, to H', where W' is: W' is W or new -/
def Step (W : Addr → Prop) (H : Hp) (W' : Addr → Prop) (H' : Hp) : Prop := Frame W H H' ∧ ∀ b, W' b → W b ∨ H b = none
section
variable {W W1 W2 U : Addr → Prop} {H H1 H2 : Hp}
theorem Frame.refl : Frame W H H := ⟨fun _ _ e _ => e, fun _ _ e => e⟩
theorem Frame.trans (a : Frame W H H1) (b : Frame W H1 H2) : Frame W H H2 := ⟨fun c o e n => b.1 c o (a.1 c o e n) n, fun c xs e => b.2 c xs (a.2 c xs e)⟩
theorem Frame.mono (a : Frame W H H1) (h : ∀ b, W b → U b) : Frame U H H1 := ⟨fun c o e n => a.1 c o e fun z => n (h c z), a.2⟩
theorem Frame.of_same (s : Same H H1) : Frame W H H1 := ⟨fun b o e _ => s b o e, fun b _ e => s b _ e⟩
theorem Step.refl : Step W H W H := ⟨.refl, fun _ h => .inl h⟩
theorem Step.of_same (s : Same H H1) : Step W H W H1 := ⟨.of_same s, fun _ h => .inl h⟩
theorem Step.trans (a : Step W H W1 H1) (b : Step W1 H1 W2 H2) : Step W H W2 H2 := by
  refine ⟨⟨fun c o e n => b.1.1 c o (a.1.1 c o e n) fun z => ?_, fun c xs e => b.1.2 c xs (a.1.2 c xs e)⟩, fun c h => ?_⟩
  · rcases a.2 c z with q | q
    · exact n q
    · rw [e] at q; cases q
  · rcases b.2 c h with z | z
    · exact a.2 c z
    · cases q : H c with
      | none => exact .inr rfl
      | some o =>
        by_cases hw : W c
        · exact .inl hw
        · rw [a.1.1 c o q hw] at z; cases z
theorem Frame.new {p : Addr} {o : HO} (h : H p = none) : Frame W H (upd H p o) := .of_same fun b u e => upd_old e h
theorem Same.upd {p : Addr} {o : HO} (h : H p = none) : Same H (L2.upd H p o) := fun b u e => upd_old e h
theorem Step.new {p : Addr} {o : HO} (h : H p = none) : Step W H W (upd H p o) := ⟨.new h, fun _ z => .inl z⟩
/-- an owned object that is no tuple changes -/
theorem Frame.put {p : Addr} {o u : HO} (hw : W p) (h : H p = some u) (nt : ∀ xs, u ≠ .tup xs) : Frame W H (upd H p o) := by
  refine ⟨fun b v e n => upd_oth e fun z => n (z ▸ hw), fun b xs e => upd_oth e fun z => ?_⟩
  subst z; rw [h] at e; exact nt xs (Option.some.inj e)
end
end Qn

/-! Q0b: enumerate of a tuple; the empty tuple written; xs[i] read for xs[i] op= e. -/
namespace Qn
open PySem L2 PySem.Spec PyProof.Rows
theorem met_enumT (l : Addr) (its : Array Value) (n : Nat) (dct : Option Addr) (sl : Array (Option Value)) :
    Meets (Builtin.«enumerate.__new__» ⟨[.type "enumerate", .ref l], []⟩) (fun _ R s => s.heap.get? l = some { cls := .type "tuple", dict := dct, data := .seq its n, slots := sl } ∧
      R (.ok (.ret (.ref (s.heap.push { cls := .type "tuple_iterator", data := .fields #[.ref l, .int 0 0] }).objs.size)))
        { s with heap := (s.heap.push { cls := .type "tuple_iterator", data := .fields #[.ref l, .int 0 0] }).push { cls := .type "enumerate", data := .fields #[.none, .bool false, .ref s.heap.objs.size, rawInt 0, .none, .none] } }) :=
  .of_wp fun prog w A R s h => by
    obtain ⟨hp, g, d, tk, os⟩ := s; obtain ⟨ht, h⟩ := h
    have sub0 := sub_enumerate
    have isT : Heap.IsTuple (Shared.heap ⟨hp, g, d, tk, os⟩) l its := ⟨_, ht, rfl, n, rfl⟩
    wp_walk using AutoSeq1.wpAny_loadPart' ht
    refine wpAny_stack_any fun stk => wpAny_pure ?_
    split
    · rename_i c _ _ _ _ _
      cases (c == Value.type "enumerate") <;>
      · wp_walk using AutoSeq1.wpAny_loadPart' ht, wpAny_pyIter_tuple isT
        exact ⟨_, rfl, h⟩
    · wp_walk using AutoSeq1.wpAny_loadPart' ht, wpAny_pyIter_tuple isT
      exact ⟨_, rfl, h⟩
theorem call_enumT {prog : Program} {w : World} {A : Around} {E : Value → Shared → Prop} {s : Shared} {l : Addr} {its : Array Value} {Q : Value → Shared → Prop} (hT : s.heap.IsTuple l its)
    (h : ∀ h', IsEnum h' (s.heap.objs.size + 1) s.heap.objs.size 0 .none → h'.IsTupleIter s.heap.objs.size l 0 → h'.objs.size = s.heap.objs.size + 2 →
      (∀ b o, s.heap.get? b = some o → h'.get? b = some o) → Q (.ref (s.heap.objs.size + 1)) { s with heap := h' }) :
    wpAny (model prog w) A (call (.type "enumerate") [.ref l]) Q E s := by
  obtain ⟨⟨c, dct, dt, sl⟩, ht, hc, n, hd⟩ := hT
  obtain rfl : c = .type "tuple" := hc
  obtain rfl : dt = .seq its n := hd
  refine callType_new F.called_enumerate (by decide) (F.typeCall_enumerate_1 _) (F.newCall_enumerate_1 _) (fun obj => F.args_object_init_2 obj _) F.entry_enumerate_new
    (met_enumT l its n dct sl) ⟨ht, ?_⟩
  have size1 : (s.heap.push { cls := .type "tuple_iterator", data := .fields #[.ref l, .int 0 0] }).objs.size = s.heap.objs.size + 1 := Heap.size_push ..
  show _ ∧ _
  rw [size1]
  have isE : IsEnum ((s.heap.push { cls := .type "tuple_iterator", data := .fields #[.ref l, .int 0 0] }).push
      { cls := .type "enumerate", data := .fields #[.none, .bool false, .ref s.heap.objs.size, rawInt 0, .none, .none] }) (s.heap.objs.size + 1) s.heap.objs.size 0 .none := by
    have q := Heap.get?_push_size (s.heap.push { cls := .type "tuple_iterator", data := .fields #[.ref l, .int 0 0] })
      (o := { cls := .type "enumerate", data := .fields #[.none, .bool false, .ref s.heap.objs.size, rawInt 0, .none, .none] }) rfl
    rw [size1] at q; exact q
  refine ⟨⟨_, isE, rfl⟩, h _ isE ⟨_, Heap.get?_push_of_some _ (Heap.get?_push_size _ rfl), rfl, rfl⟩ (by rw [Heap.size_push, size1]) fun b o x => Heap.get?_push_of_some _ (Heap.get?_push_of_some _ x)⟩
/-- the tuple at a, each item in a new pair -/
def ItT (K : PySem.W.Frag) (a : Addr) : It :=
  ⟨fun i H => ∃ (xs : List V) (x : V), SqT K H a xs ∧ xs[i]? = some x, fun i H v H' => ∃ T x, v = .ref T ∧ H T = none ∧ H' = upd H T (.tup [.int (i : Nat), x]) ∧ ∀ xs, SqT K H a xs → xs[i]? = some x, fun i H => ∃ xs : List V, SqT K H a xs ∧ xs.length ≤ i⟩
theorem turn_enumT {P : Program} {w : World} {K : PySem.W.Frag} {elts : List Expr} {kk : Nat} {tpos : Pos} (a e it : Addr) :
    Turn P w K (.Tuple elts kk tpos) (ItT K a) [e, it] e (fun i h => (∃ old, IsEnum h e it ((i : Nat) : Int) old) ∧ h.IsTupleIter it a i ∧ e ≠ it) where
  mem := by simp
  obj := fun i h st b hb => by
    obtain ⟨⟨old, isE⟩, ⟨o, ho, hc, hd⟩, _⟩ := st
    have e' : b = e ∨ b = it := by simpa using hb
    rcases e' with z | z
    · rw [z]; exact ⟨_, isE, fun v q => nomatch q⟩
    · rw [z]; exact ⟨o, ho, fun v q => by rw [hd] at q; cases q⟩
  keep := fun i h h' st k => let ⟨⟨old, isE⟩, hi, hne⟩ := st; ⟨⟨old, k e (by simp) _ isE⟩, hi.at fun o q => k it (by simp) o q, hne⟩
  item := by
    intro X hP hw hK hc i pins s σ H E I hf st hg
    subst hP hw hK
    obtain ⟨⟨old, isE⟩, isI, hne⟩ := st
    obtain ⟨xs, x, hq, hx⟩ := hg
    obtain ⟨its, rv, p, hz⟩ := I.tuple hq
    obtain ⟨u, hu, ru⟩ := rv.get hx
    have ltE : e < s.heap.objs.size := Heap.lt_size isE
    have ltI : it < s.heap.objs.size := by obtain ⟨_, q, _⟩ := isI; exact Heap.lt_size q
    have apart : a ≠ it := by
      intro z
      obtain ⟨o1, q1, c1, _⟩ := isI
      obtain ⟨o2, q2, c2, _⟩ := p
      rw [z, q1] at q2; cases q2
      rw [c1] at c2; injection c2 with c3; exact absurd c3 (by decide)
    have apartE : a ≠ e := by
      intro z
      obtain ⟨o2, q2, c2, _⟩ := p
      have q3 := isE
      unfold IsEnum at q3
      rw [z, q3] at q2; cases q2; injection c2 with c3; exact absurd c3 (by decide)
    refine wpAny_pyNext_enum_itemD (Draws.tuple (A := X.A.in1) (I.ok.hd hc) it a apart its.toArray) isE ⟨isI, p⟩ (by
      have := (List.getElem?_eq_some_iff.mp hu).1
      simpa using this) hne (by
        intro z
        rcases List.mem_cons.mp z with z | z
        · exact hne z
        · exact apartE (List.mem_singleton.mp z).symm) fun y h' tk hy ho stN hT hsz hk => ?_
    have ey : y = u := by
      have q : its.toArray[i]? = some u := by simpa using hu
      have hy' : its.toArray[i]? = some y := hy
      rw [q] at hy'
      exact (Option.some.inj hy').symm
    subst ey
    refine ⟨_, rfl, wpAny_letOwnedTupleGo_enum (s := { s with heap := h', toks := tk + 1 }) ho fun h'' he' sb => ?_⟩
    have hT2 : h''.get? s.heap.objs.size = some { cls := .type "tuple", data := .seq #[.int i tk, y] } := (sb.2 _ (Nat.ne_of_gt ltE)).trans hT
    have new : ObjOk X.prog X.w (upd H s.heap.objs.size (.tup [.int (i : Nat), x])) h'' s.heap.objs.size (.tup [.int (i : Nat), x]) :=
      ⟨by show 2 ≤ sizeLine; decide, [.int i tk, y], .cons ⟨_, rfl⟩ (.cons ru .nil), ⟨_, hT2, rfl, _, rfl⟩⟩
    have I1 : Inv X pins σ (upd H s.heap.objs.size (.tup [.int (i : Nat), x])) { s with heap := h'', toks := tk + 1 } :=
      I.turnedNew (ch := [e, it]) (fun b ob hb q => (sb.2 b (fun z => hb (by simp [z]))).trans (hk b ob (fun z => hb (by simp [z])) (fun z => hb (by simp [z])) q)) hf (Nat.le_refl _) new
    refine ⟨.ref s.heap.objs.size, _, I1, rfl, ⟨_, x, rfl, I.hok.fresh (Nat.le_refl _), rfl, fun ys hy => by rw [I.tuple_inj hy hq]; exact hx⟩, ⟨⟨y, ?_⟩, stN.1.at fun o q => (sb.2 it (Ne.symm hne)).trans q, hne⟩, fun b hb => ?_⟩
    · have e1 : ((i + 1 : Nat) : Int) = (i : Int) + 1 := by omega
      rw [e1]; exact he'
    · have lt1 : b < s.heap.objs.size := by
        have e' : b = e ∨ b = it := by simpa using hb
        rcases e' with z | z
        · rw [z]; exact ltE
        · rw [z]; exact ltI
      rw [upd_ne (Nat.ne_of_lt lt1)]
      exact (hf b hb).1
  done := by
    intro X hP hw hK hc i pins s σ H E I hf st hg
    subst hP hw hK
    obtain ⟨⟨old, isE⟩, isI, hne⟩ := st
    obtain ⟨xs, hq, hx⟩ := hg
    obtain ⟨its, rv, p, hz⟩ := I.tuple hq
    obtain ⟨g0, g1, g2, g3, g4, g5⟩ := hf it (by simp)
    have lenE := rv.length
    have apart : a ≠ it := by
      intro z
      obtain ⟨o1, q1, c1, _⟩ := isI
      obtain ⟨o2, q2, c2, _⟩ := p
      rw [z, q1] at q2; cases q2
      rw [c1] at c2; injection c2 with c3; exact absurd c3 (by decide)
    unfold pyNext
    have hT : s.TypeIs (.ref e) "enumerate" := ⟨_, isE, rfl⟩
    refine wpAny_bind (wpAny_attempt (wpAny_callSpecial?_slot (name := Str.ofString "__next__") hT F.slot_enumerate_next
      (wpAny_call_entry F.slot_enumerate_next hT F.entry_enumerate_next ?_ (F.args_enumerate_next_1 _))))
    show wpAny _ _ (field (.ref e) 2 >>= _) _ _ _
    refine wpAny_bind (wpAny_field isE rfl (x := .ref it) rfl ?_)
    refine wpAny_bind (wpAny_nextOf_tuple_end (A := X.A.in1) (I.ok.hd hc) isI (show s.heap.IsTuple a its.toArray from p) (by simp; omega) fun h' x he' hx' => ?_)
    obtain ⟨o, ho, hc'⟩ := hx'
    refine wpAny_bind (wpAny_isInstance (T := "StopIteration") (b := true) ⟨o, ho, hc'⟩ isSubtype_stop ?_)
    exact wpAny_pure ⟨rfl, I.turned (t' := s.toks) (fun b o hb q => he' b o hb q) g0 g1 g3 g4 g5⟩
  self := fun A i s Q E st h => let ⟨⟨_, isE⟩, _⟩ := st; wpAny_pyIter_enum isE h
def kIE (K : PySem.W.Frag) : List V → Hp → (It → Hp → Prop) → Prop := fun vs H R => ∃ a xs, vs = [.ref a] ∧ SqT K H a xs ∧ R (ItT K a) H
def iEnumT (K : PySem.W.Frag) (ta : TA) : TI := fun σ H R => ta σ H fun vs H1 => kIE K vs H1 R
theorem qi_enumT {X : Cx} {e : Expr} {ta : TA} {p pos tpos : Pos} {elts : List Expr} {kk : Nat} (hg : Gl X "enumerate") (hm : X.mg "enumerate" = none) (ha : PA X [e] ta) (hs : starEach [e] X.env = [(false, eval e X.env)] := by rfl) :
    PI X (.Tuple elts kk tpos) (.Call (.Name "enumerate" p) [e] [] pos) (iEnumT X.K ta) := by
  refine ⟨fun pins s σ H R I h => ?_⟩
  refine Call_ (ld_blt I hg hm boot_enumerate (PyProof.Rows.callWith_type1 (thn (ha.run pos pins s σ H _ I h) fun us s1 ⟨vs, H1, I1, r1, q1⟩ => ?_) hs rfl))
  obtain ⟨a, xs, ex, hq, q⟩ := q1
  subst ex
  cases r1 with
  | cons r rr =>
    cases rr
    cases r
    obtain ⟨its, rv, p', hz⟩ := I1.tuple hq
    refine call_enumT (show s1.heap.IsTuple a its.toArray from p') fun h' isE isI hsz hk => wpAny_pyIter_enum isE ?_
    have I2 : Inv X pins σ H1 { s1 with heap := h' } := I1.kept (t' := s1.toks) hk
    refine ⟨s1.heap.objs.size + 1, [s1.heap.objs.size + 1, s1.heap.objs.size], _, _, H1, rfl, I2, turn_enumT a (s1.heap.objs.size + 1) s1.heap.objs.size, ⟨⟨.none, isE⟩, isI, Nat.succ_ne_self _⟩, fun b hb => ?_, q⟩
    have e' : b = s1.heap.objs.size + 1 ∨ b = s1.heap.objs.size := by simpa using hb
    have above : s1.heap.objs.size ≤ b := by
      rcases e' with z | z
      · rw [z]; exact Nat.le_add_right _ _
      · rw [z]; exact Nat.le_refl _
    exact I1.fpOk above (I1.hok.fresh above)
theorem walk_enumT {K : PySem.W.Frag} {a : Addr} {xs : List V} : Walk (ItT K a) xs.length (fun H => SqT K H a xs) (YPair (fun i => some (.int (i : Nat))) (fun i => xs[i]?)) := by
  refine ⟨fun i _ hi q => ⟨xs, xs[i], q, by simp [hi]⟩, fun _ q => ⟨xs, q, Nat.le_refl _⟩, fun i H v H' _ q y => ?_⟩
  obtain ⟨T, x, h1, h2, h3, h4⟩ := y
  exact ⟨T, .int (i : Nat), x, h1, h2, h3, rfl, h4 xs q⟩
section
variable {K : PySem.W.Frag} {σ : L2.St} {H : Hp} {t : TA} {a : Addr} {xs : List V} {R : It → Hp → Prop} {Q : VK} {v : V} {i : Int}
theorem r_iET (k : t σ H fun vs H1 => kIE K vs H1 R) : iEnumT K t σ H R := k
theorem r_kIE (h : SqT K H a xs) (k : R (ItT K a) H) : kIE K [.ref a] H R := ⟨a, xs, rfl, h, k⟩
end
/-- () -/
def tTup0 : TE := fun _ H Q => ∀ p, H p = none → Q (.ref p) (upd H p (.tup []))
theorem qe_tup0 {X : Cx} {x1 : Nat} {pos : Pos} : PE X (.Tuple [] x1 pos) tTup0 :=
  ⟨fun pins s σ H Q I h => (pe_tup (X := X) (x1 := x1) (pos := pos) pa_nil).run pins s σ H Q I ⟨Nat.zero_le _, h⟩⟩
theorem r_tup0 {σ : L2.St} {H : Hp} {Q : VK} (k : ∀ p, H p = none → Q (.ref p) (upd H p (.tup []))) : tTup0 σ H Q := k
/-- xs[i] for xs[i] op= e -/
def gIxL (K : PySem.W.Frag) : V → V → Hp → VK → Prop := rIxL K
theorem qg_list {X : Cx} : PGet X (gIxL X.K) := by
  intro pins s σ H o i ov iv Q I ro ri h
  obtain ⟨p, xs, k, z, rfl, rfl, hq, he, q⟩ := h
  cases ro
  obtain ⟨t, rfl⟩ := ri
  obtain ⟨its, r, pl, hz⟩ := I.list hq
  obtain ⟨j, h1, h2, h3, h4, h5⟩ := atI_get he
  obtain ⟨u, eu, ru⟩ := r.get h2
  have lenE := r.length
  have hn := line63
  have fin : EP X pins σ Q u s := ⟨z, H, I, ru, q⟩
  by_cases h0 : 0 ≤ k
  · have ej : k.toNat = j := by
      rw [seqIndex_of h0 h5] at h1
      exact Option.some.inj h1
    refine wpAny_getItem_list pl.isList h0 (by omega) (by rw [ej]; simpa using eu) fin
  · have ej : (k + (its.toArray.size : Int)).toNat = j := by
      rw [seqIndex_neg (by omega) h4] at h1
      rw [List.size_toArray, ← lenE]
      exact Option.some.inj h1
    exact wpAny_getItem_list_neg pl.isList (by omega) (by rw [List.size_toArray] <;> omega) (by omega) (by rw [ej]; simpa using eu) fin
end Qn

/-! Q0c: the plain steps of a reading, found by the head of what is asked. -/
namespace Qn
open PySem L2
class Rd (A : Prop) (B : outParam Prop) : Prop where
  by_ : B → A
/-- a slot's value -/
class GetS (σ : St) (n : Nat) (v : outParam V) : Prop where
  eq : σ[n]? = some (some v)
class SetS (σ : St) (n : Nat) (v : V) (τ : outParam St) : Prop where
  eq : σ.set n (some v) = τ
instance get_0 {v : V} {σ : St} : GetS (some v :: σ) 0 v := ⟨rfl⟩
instance get_s {o : Option V} {σ : St} {n : Nat} {v : V} [h : GetS σ n v] : GetS (o :: σ) (n + 1) v := ⟨by simpa using h.eq⟩
instance set_0 {o : Option V} {σ : St} {v : V} : SetS (o :: σ) 0 v (some v :: σ) := ⟨rfl⟩
instance set_s {o : Option V} {σ τ : St} {n : Nat} {v : V} [h : SetS σ n v τ] : SetS (o :: σ) (n + 1) v (o :: τ) := ⟨by rw [List.set_cons_succ, h.eq]⟩
section
variable {K : PySem.W.Frag} {σ τ : St} {H : Hp} {Q : VK} {R : Hp → Prop} {S : St → Hp → Prop} {D : Ends} {ta tb tc te tv td ty tx : TE} {tr t : TA} {t1 t2 ts : TS} {c c1 c2 : TT} {P : Bool → Hp → Prop} {x y z v : V} {i j : Int} {a p : Addr} {f m : Str} {xs : List V} {n : Nat} {b : Bool} {A B : Prop}
instance rd_seq : Rd (tSeq t1 t2 D σ H) (t1 { D with nx := t2 D } σ H) := ⟨id⟩
instance rd_next : Rd (tNext D σ H) (D.nx σ H) := ⟨id⟩
instance rd_brk : Rd (tBreak D σ H) (D.bk σ H) := ⟨id⟩
instance rd_cont : Rd (tCont D σ H) (D.ct σ H) := ⟨id⟩
instance rd_var [h : GetS σ n v] : Rd (tVar n σ H Q) (Q v H) := ⟨fun k => ⟨v, h.eq, k⟩⟩
instance rd_c : Rd (tC v σ H Q) (Q v H) := ⟨id⟩
instance rd_op {r : R2} : Rd (tOp r ta tb σ H Q) (ta σ H fun x H1 => tb σ H1 fun y H2 => r x y H2 Q) := ⟨id⟩
instance rd_un {r : V → Hp → VK → Prop} : Rd (tUn r ta σ H Q) (ta σ H fun x H1 => r x H1 Q) := ⟨id⟩
instance rd_asg {g : TG} : Rd (tAsg te g D σ H) (te σ H fun x H1 => g x σ H1 D.nx) := ⟨id⟩
instance rd_gName [h : SetS σ n v τ] : Rd (gName n v σ H S) (S τ H) := ⟨fun k => by unfold gName; rw [h.eq]; exact k⟩
instance rd_cons {Q : List V → Hp → Prop} : Rd (tCons ta tr σ H Q) (ta σ H fun x H1 => tr σ H1 fun xs H2 => Q (x :: xs) H2) := ⟨id⟩
instance rd_nil {Q : List V → Hp → Prop} : Rd (tNil σ H Q) (Q [] H) := ⟨id⟩
instance rd_add : Rd (oAdd (.int i) (.int j) H Q) (Q (.int (i + j)) H) := ⟨r_add⟩
instance rd_sub : Rd (oSub (.int i) (.int j) H Q) (Q (.int (i - j)) H) := ⟨r_sub⟩
instance rd_lt : Rd (oLt (.int i) (.int j) H Q) (Q (.bl (decide (i < j))) H) := ⟨r_lt⟩
instance rd_le : Rd (oLe (.int i) (.int j) H Q) (Q (.bl (decide (i ≤ j))) H) := ⟨r_le⟩
instance rd_gt : Rd (oGt (.int i) (.int j) H Q) (Q (.bl (decide (j < i))) H) := ⟨r_gt⟩
instance rd_ge : Rd (oGe (.int i) (.int j) H Q) (Q (.bl (decide (j ≤ i))) H) := ⟨r_ge⟩
instance rd_neg : Rd (rU (fun i => .int (-i)) (.int i) H Q) (Q (.int (-i)) H) := ⟨r_neg⟩
instance rd_eqI : Rd (rEq (.int i) (.int j) H Q) (Q (.bl (decide (i = j))) H) := ⟨r_eqI⟩
instance rd_neI : Rd (rNe (.int i) (.int j) H Q) (Q (.bl (!decide (i = j))) H) := ⟨r_neI⟩
instance rd_eqS {u w : Str} : Rd (rEq (.str u) (.str w) H Q) (Q (.bl (decide (u = w))) H) := ⟨r_eqS⟩
instance rd_neS {u w : Str} : Rd (rNe (.str u) (.str w) H Q) (Q (.bl (!decide (u = w))) H) := ⟨r_neS⟩
instance rd_isN : Rd (rIsN x .non H Q) (Q (.bl (decide (x = .non))) H) := ⟨r_isN⟩
instance rd_notN : Rd (rNotN x .non H Q) (Q (.bl (!decide (x = .non))) H) := ⟨r_notN⟩
instance rd_test : Rd (tTest te σ H P) (te σ H fun x H1 => kBool x H1 P) := ⟨id⟩
instance rd_B : Rd (tB te σ H P) (te σ H fun x H1 => kBool x H1 P) := ⟨id⟩
instance rd_kBool : Rd (kBool (.bl b) H P) (P b H) := ⟨r_kBool⟩
instance rd_not : Rd (tNot c σ H P) (c σ H fun b H1 => P (!b) H1) := ⟨id⟩
instance rd_and : Rd (tAnd c1 c2 σ H P) (c1 σ H fun b H1 => kIf b (c2 σ H1 P) (P false H1)) := ⟨id⟩
instance rd_or : Rd (tOr c1 c2 σ H P) (c1 σ H fun b H1 => kIf b (P true H1) (c2 σ H1 P)) := ⟨id⟩
instance rd_if : Rd (tIf c ta tb σ H Q) (c σ H fun b H1 => kIf b (ta σ H1 Q) (tb σ H1 Q)) := ⟨id⟩
instance rd_ifS : Rd (tIfS c t1 t2 D σ H) (c σ H fun b H1 => kIf b (t1 D σ H1) (t2 D σ H1)) := ⟨id⟩
instance rd_andV : Rd (tAndV ta tb σ H Q) (ta σ H fun x H1 => kBool x H1 fun b H2 => kIf b (tb σ H2 Q) (Q (.bl false) H2)) := ⟨id⟩
instance rd_orV : Rd (tOrV ta tb σ H Q) (ta σ H fun x H1 => kBool x H1 fun b H2 => kIf b (Q (.bl true) H2) (tb σ H2 Q)) := ⟨id⟩
instance rd_notV : Rd (tNotV ta σ H Q) (ta σ H fun x H1 => kBool x H1 fun b H2 => Q (.bl (!b)) H2) := ⟨id⟩
instance rd_chain {r r' : R2} : Rd (tChain r r' ta tb tc σ H Q) (ta σ H fun x H1 => tb σ H1 fun y H2 => r x y H2 fun z H3 => kBool z H3 fun b H4 => kIf b (tc σ H4 fun w H5 => r' y w H5 Q) (Q (.bl false) H4)) := ⟨id⟩
instance rd_yes : Rd (tYes σ H P) (P true H) := ⟨id⟩
instance rd_kT : Rd (kIf true A B) A := ⟨id⟩
instance rd_kF : Rd (kIf false A B) B := ⟨id⟩
instance rd_kNF : Rd (kIf (!false) A B) A := ⟨id⟩
instance rd_kNT : Rd (kIf (!true) A B) B := ⟨id⟩
instance rd_kIn {α : Type} : Rd (kIf (Option.isSome (none : Option α)) A B) B := ⟨id⟩
instance rd_kIs {α : Type} {u : α} : Rd (kIf (Option.isSome (some u)) A B) A := ⟨id⟩
instance rd_kNin {α : Type} : Rd (kIf (!Option.isSome (none : Option α)) A B) A := ⟨id⟩
instance rd_kNis {α : Type} {u : α} : Rd (kIf (!Option.isSome (some u)) A B) B := ⟨id⟩
instance rd_fld : Rd (tFld K ta f σ H Q) (ta σ H fun x H1 => kFld K f x H1 Q) := ⟨id⟩
instance rd_tup : Rd (tTup t σ H Q) (t σ H fun xs H1 => kTup xs H1 Q) := ⟨id⟩
instance rd_lst : Rd (tLst t σ H Q) (t σ H fun xs H1 => kLst xs H1 Q) := ⟨id⟩
instance rd_call {sp : Sp} {dvs : List V} {E : XK} : Rd (tCall sp dvs E t σ H Q) (t σ H fun vs H1 => sp (vs ++ dvs) H1 Q E) := ⟨id⟩
instance rd_meth {C : Addr} {sp : Sp} {dvs : List V} {E : XK} : Rd (tMeth C m sp dvs E ta t σ H Q) (ta σ H fun x H1 => kMeth C m sp dvs E σ t x H1 Q) := ⟨id⟩
instance rd_make {C : Addr} {sp : Sp} {E : XK} : Rd (tMake C sp [] E t σ H Q) (t σ H fun vs H1 => kMake C sp E (vs ++ []) H1 Q) := ⟨id⟩
instance rd_CB {r : List V → Hp → VK → Prop} : Rd (tCB r t σ H Q) (t σ H fun vs H1 => r vs H1 Q) := ⟨id⟩
instance rd_min2 : Rd (cMin2 [.int i, .int j] H Q) (Q (.int (if j < i then j else i)) H) := ⟨r_min2⟩
instance rd_max2 : Rd (cMax2 [.int i, .int j] H Q) (Q (.int (if j > i then j else i)) H) := ⟨r_max2⟩
instance rd_intB : Rd (cInt [.bl b] H Q) (Q (.int (if b then 1 else 0)) H) := ⟨r_intB⟩
instance rd_intI : Rd (cInt [.int i] H Q) (Q (.int i) H) := ⟨r_intI⟩
instance rd_BM {T : String} {r : V → List V → Hp → VK → Prop} : Rd (tBM K T r ta t σ H Q) (ta σ H fun x H1 => kBM K T r σ t x H1 Q) := ⟨id⟩
instance rd_BM0 {T : String} {r : V → List V → Hp → VK → Prop} : Rd (tBM0 K T r ta σ H Q) (ta σ H fun x H1 => kBM K T r σ tNil x H1 Q) := ⟨id⟩
instance rd_kBMS {r : V → List V → Hp → VK → Prop} {u : Str} : Rd (kBM K "str" r σ t (.str u) H Q) (t σ H fun ys H2 => r (.str u) ys H2 Q) := ⟨r_kBMS⟩
instance rd_sl {r : V → Option Int → Option Int → Hp → VK → Prop} {tl th : TO} : Rd (tSl r te tl th σ H Q) (te σ H fun x H1 => tl σ H1 fun l H2 => th σ H2 fun u H3 => r x l u H3 Q) := ⟨id⟩
instance rd_part {Q : Option Int → Hp → Prop} : Rd (tPart te σ H Q) (te σ H fun x H1 => kPart x H1 Q) := ⟨id⟩
instance rd_kPart {Q : Option Int → Hp → Prop} : Rd (kPart (.int i) H Q) (Q (some i) H) := ⟨r_kPart⟩
instance rd_noPart {Q : Option Int → Hp → Prop} : Rd (tNoPart σ H Q) (Q none H) := ⟨id⟩
instance rd_dget : Rd (tDGet td ty σ H Q) (td σ H fun x H1 => ty σ H1 fun y H2 => kDGet x y H2 Q) := ⟨id⟩
instance rd_din : Rd (tDIn ty td σ H Q) (ty σ H fun y H1 => td σ H1 fun x H2 => kDIn x y H2 Q) := ⟨id⟩
instance rd_dnotin : Rd (tDNotIn ty td σ H Q) (ty σ H fun y H1 => td σ H1 fun x H2 => kDNotIn x y H2 Q) := ⟨id⟩
instance rd_pop1 : Rd (tDPop1 td ty σ H Q) (td σ H fun x H1 => kPop1 ty σ x H1 Q) := ⟨id⟩
instance rd_gTup {u : TGs} : Rd (gTup K n u v σ H S) (kUnT K n u v σ H S) := ⟨id⟩
instance rd_gCons {g : TG} {u : TGs} : Rd (gCons g u (v :: xs) σ H S) (g v σ H fun σ' H' => u xs σ' H' S) := ⟨r_gCons⟩
instance rd_gNil : Rd (gNil [] σ H S) (S σ H) := ⟨r_gNil⟩
instance rd_gSub {ti : TE} {s : TSet} : Rd (gSub ta ti s v σ H S) (ta σ H fun o H1 => ti σ H1 fun i H2 => s o i v H2 fun H3 => S σ H3) := ⟨id⟩
instance rd_sFld : Rd (sFld K ta tv f D σ H) (tv σ H fun y H1 => ta σ H1 fun x H2 => kSetF K f y x H2 fun H3 => D.nx σ H3) := ⟨id⟩
/-- o.f op= e -/
def kSetA (f : Str) (a C : Addr) (z : V) (R : Hp → Prop) : Hp → Prop := fun H3 => ∃ dx fs, H3 a = some (.ins C dx fs) ∧ fs.length < 1000 ∧ R (upd H3 a (.ins C dx (putF f z fs)))
def kAugF (K : PySem.W.Frag) (f : Str) (σ : St) (tv : TE) (rd : V → V → Hp → VK → Prop) (R : Hp → Prop) : V → Hp → Prop := fun x H1 => ∃ a C dx fs v, x = .ref a ∧ H1 a = some (.ins C dx fs) ∧ Cls K C ∧ NoAttr K C f ∧ fs.lookup f = some v ∧
  tv σ H1 fun y H2 => rd v y H2 fun z H3 => kSetA f a C z R H3
theorem r_augF {rd : V → V → Hp → VK → Prop} (k : ta σ H fun x H1 => kAugF K f σ tv rd (fun H4 => D.nx σ H4) x H1) : sFldAug K ta tv rd f D σ H := k
instance rd_augF {rd : V → V → Hp → VK → Prop} : Rd (sFldAug K ta tv rd f D σ H) (ta σ H fun x H1 => kAugF K f σ tv rd (fun H4 => D.nx σ H4) x H1) := ⟨r_augF⟩
theorem r_kAugF {rd : V → V → Hp → VK → Prop} {C dx : Addr} {fs : List (Str × V)} (h : H a = some (.ins C dx fs)) (c : Cls K C) (n : NoAttr K C f) (l : fs.lookup f = some v) (k : tv σ H fun y H2 => rd v y H2 fun z H3 => kSetA f a C z R H3) :
    kAugF K f σ tv rd R (.ref a) H := ⟨a, C, dx, fs, v, rfl, h, c, n, l, k⟩
theorem r_kSetA {C dx : Addr} {fs : List (Str × V)} (h : H a = some (.ins C dx fs)) (hl : fs.length < 1000) (k : R (upd H a (.ins C dx (putF f z fs)))) : kSetA f a C z R H := ⟨dx, fs, h, hl, k⟩
instance rd_drop : Rd (tDrop te D σ H) (te σ H fun _ H1 => D.nx σ H1) := ⟨id⟩
instance rd_ret : Rd (tRet te D σ H) (te σ H D.rt) := ⟨id⟩
instance rd_retN : Rd (tRetN D σ H) (D.rt .non H) := ⟨id⟩
instance rd_sDPut : Rd (sDPut td ty tv D σ H) (tv σ H fun v H1 => td σ H1 fun x H2 => ty σ H2 fun y H3 => kDPut v x y H3 fun H4 => D.nx σ H4) := ⟨r_sDPut⟩
instance rd_for {wi : TI} {g : TG} : Rd (tFor wi g ts D σ H) (wi σ H fun J H1 => kFor J g ts D σ H1) := ⟨id⟩
instance rd_iList {R : It → Hp → Prop} : Rd (iList K te σ H R) (te σ H fun x H1 => kIL K x H1 R) := ⟨id⟩
instance rd_iTup {R : It → Hp → Prop} : Rd (iTup K te σ H R) (te σ H fun x H1 => kIT K x H1 R) := ⟨id⟩
instance rd_iR1 {R : It → Hp → Prop} : Rd (iRng1 t σ H R) (t σ H fun vs H1 => kIR1 vs H1 R) := ⟨id⟩
instance rd_iR2 {R : It → Hp → Prop} : Rd (iRng2 t σ H R) (t σ H fun vs H1 => kIR2 vs H1 R) := ⟨id⟩
instance rd_iET {R : It → Hp → Prop} : Rd (iEnumT K t σ H R) (t σ H fun vs H1 => kIE K vs H1 R) := ⟨id⟩
def kPar (n1 n2 : Nat) (σ : St) (H : Hp) (S : St → Hp → Prop) : List V → Prop := fun vs => ∃ v w, vs = [v, w] ∧ S ((σ.set n1 (some v)).set n2 (some w)) H
instance rd_par {n1 n2 : Nat} : Rd (tPar n1 n2 t D σ H) (t σ H fun vs H1 => kPar n1 n2 σ H1 D.nx vs) := ⟨id⟩
instance rd_kPar {n1 n2 : Nat} {v w : V} {τ1 τ2 : St} [h1 : SetS σ n1 v τ1] [h2 : SetS τ1 n2 w τ2] : Rd (kPar n1 n2 σ H S [v, w]) (S τ2 H) := ⟨fun k => ⟨v, w, rfl, by rw [h1.eq, h2.eq]; exact k⟩⟩
def kPar3 (n1 n2 n3 : Nat) (σ : St) (H : Hp) (S : St → Hp → Prop) : List V → Prop := fun vs => ∃ u v w, vs = [u, v, w] ∧ S (((σ.set n1 (some u)).set n2 (some v)).set n3 (some w)) H
instance rd_par3 {n1 n2 n3 : Nat} : Rd (tPar3 n1 n2 n3 t D σ H) (t σ H fun vs H1 => kPar3 n1 n2 n3 σ H1 D.nx vs) := ⟨id⟩
instance rd_kPar3 {n1 n2 n3 : Nat} {u v w : V} {τ1 τ2 τ3 : St} [h1 : SetS σ n1 u τ1] [h2 : SetS τ1 n2 v τ2] [h3 : SetS τ2 n3 w τ3] : Rd (kPar3 n1 n2 n3 σ H S [u, v, w]) (S τ3 H) := ⟨fun k => ⟨u, v, w, rfl, by rw [h1.eq, h2.eq, h3.eq]; exact k⟩⟩
/-- name op= e -/
def kAug (n : Nat) (te : TE) (ti : TIp) (σ : St) (H : Hp) (S : St → Hp → Prop) : V → Prop := fun x => te σ H fun y H1 => ti x y H1 fun z H2 => S (σ.set n (some z)) H2
instance rd_aug {ti : TIp} [h : GetS σ n v] : Rd (tAug n te ti D σ H) (te σ H fun y H1 => ti v y H1 fun z H2 => gName n z σ H2 D.nx) := ⟨fun k => ⟨v, h.eq, k⟩⟩
instance rd_ipI {g : Int → Int → Int} : Rd (ipI g (.int i) (.int j) H Q) (Q (.int (g i j)) H) := ⟨fun k => ⟨i, j, rfl, rfl, k⟩⟩
instance rd_augS {to ti : TE} {tg : V → V → Hp → VK → Prop} {tip : TIp} {s : TSet} : Rd (tAugS to ti te tg tip s D σ H) (to σ H fun o H1 => ti σ H1 fun i H2 => tg o i H2 fun x H3 => te σ H3 fun y H4 => tip x y H4 fun z H5 => s o i z H5 fun H6 => D.nx σ H6) := ⟨id⟩
instance rd_rAdd : Rd (L2.rAdd (.int i) (.int j) H Q) (Q (.int (i + j)) H) := ⟨fun k => ⟨i, j, rfl, rfl, k⟩⟩
instance rd_rSub : Rd (L2.rSub (.int i) (.int j) H Q) (Q (.int (i - j)) H) := ⟨fun k => ⟨i, j, rfl, rfl, k⟩⟩
end
theorem rd_step {A B : Prop} [h : Rd A B] (k : B) : A := h.by_ k
end Qn

/-! Q1: the lines as plain data, and how a heap bears them. -/
namespace Qn
open PySem L2
/-! ### plain data -/
structure Card where
  line : Nat
  q : Int
  sh : Int
  rdy : Bool
  sp : List Int
structure Rul where
  lines : List (Int × Int)
  boost : Option Int
  kept : Bool
structure LSt where
  cards : List (Int × Card)
  rows : List (List Int)
  time : Int
namespace Rul
def q (R : Rul) (l : Nat) : Int := (R.lines.getD l (0, 0)).1
def s (R : Rul) (l : Nat) : Int := (R.lines.getD l (0, 0)).2
structure Ok (R : Rul) : Prop where
  one : 1 ≤ R.lines.length
  four : R.lines.length ≤ 4
  each : ∀ p ∈ R.lines, 1 ≤ p.1 ∧ p.1 ≤ 8 ∧ p.1 ≤ p.2 ∧ p.2 ≤ 40
  boosts : ∀ b, R.boost = some b → 5 ≤ b ∧ b ≤ 100
theorem Ok.at {R : Rul} (h : R.Ok) {l : Nat} (hl : l < R.lines.length) : 1 ≤ R.q l ∧ R.q l ≤ 8 ∧ R.q l ≤ R.s l ∧ R.s l ≤ 40 := by
  have e : R.lines.getD l (0, 0) = R.lines[l] := by simp [List.getD, hl]
  unfold Rul.q Rul.s
  rw [e]
  exact h.each _ (List.getElem_mem hl)
end Rul
def look : List (Int × Card) → Int → Option Card
  | [], _ => none
  | p :: r, t => if p.1 = t then some p.2 else look r t
namespace LSt
def upC (S : LSt) (t : Int) (f : Card → Card) : LSt := { S with cards := S.cards.map fun p => if p.1 = t then (p.1, f p.2) else p }
def upR (S : LSt) (l : Nat) (f : List Int → List Int) : LSt := { S with rows := S.rows.modify l f }
def at_ (S : LSt) (t : Int) (z : Int) : LSt := { S with time := z }
def row (S : LSt) (l : Nat) : List Int := S.rows.getD l []
def lay (R : Rul) (S : LSt) (t : Int) (l : Nat) : LSt := (S.upC t fun c => { c with line := l, q := R.q l }).upR l (· ++ [t])
def card (S : LSt) (t : Int) : Card := (look S.cards t).getD ⟨0, 0, 0, false, []⟩
def fresh (R : Rul) (n : Nat) : Card := ⟨0, 0, R.s 0, true, List.replicate n 0⟩
def come (R : Rul) (S : LSt) (t : Int) : LSt := lay R { S with cards := S.cards ++ [(t, fresh R S.rows.length)] } t 0
def drop (S : LSt) (t : Int) : LSt := { S with cards := S.cards.filter fun p => decide (p.1 ≠ t) }
def go (S : LSt) (t : Int) : LSt := if (S.card t).rdy then (S.drop t).upR (S.card t).line (·.erase t) else S.drop t
def wait (S : LSt) (t : Int) : LSt := (S.upC t fun c => { c with rdy := false }).upR (S.card t).line (·.erase t)
def wake (R : Rul) (S : LSt) (t : Int) : LSt := lay R (S.upC t fun c => { c with rdy := true, sh := if R.kept then c.sh else R.s c.line }) t (S.card t).line
def clear (R : Rul) (S : LSt) : LSt := { cards := S.cards.map fun p => (p.1, { p.2 with line := 0, sh := R.s 0 }), rows := S.row 0 :: List.replicate (S.rows.length - 1) [], time := S.time }
def boosted (R : Rul) (S : LSt) : LSt := (S.rows.drop 1).flatten.foldl (fun S t => lay R S t 0) (S.clear R)
def rdyIx (S : LSt) : List Nat := (List.range S.rows.length).filter fun j => !(S.row j).isEmpty
def first (S : LSt) : Option Int := match S.rdyIx with
  | [] => none
  | j :: _ => some ((S.row j).headD 0)
def due (R : Rul) (S : LSt) : Bool := match R.boost with
  | none => false
  | some b => decide (0 < S.time) && decide (S.time % b = 0)
def boostNow (R : Rul) (S : LSt) : LSt := if S.due R then S.boosted R else S
/-- task t has run so many moments -/
def charge (R : Rul) (S : LSt) (t : Int) (many : Int) : LSt :=
  let c := S.card t
  let S1 := S.upC t fun c => { c with sp := c.sp.modify c.line (· + many), q := c.q - many, sh := c.sh - many }
  if c.sh - many = 0 then
    let l := min (S.rows.length - 1) (c.line + 1)
    let S2 := S1.upC t fun c => { c with sh := R.s l }
    if c.line < S.rows.length - 1 ∨ c.q - many = 0 then lay R (S2.upR c.line (·.erase t)) t l else S2
  else if c.q - many = 0 then lay R (S1.upR c.line (·.erase t)) t c.line
  else S1
def run (R : Rul) (S : LSt) (many : Int) : LSt := match ({ S with time := S.time + many } : LSt).first with
  | none => { S with time := S.time + many }
  | some t => charge R { S with time := S.time + many } t many
def ran (S : LSt) : Option (Int × Nat) := match S.first with
  | none => none
  | some t => some (t, (S.card t).line)
def tick (R : Rul) (S : LSt) : LSt := run R (S.boostNow R) 1
end LSt

/-! ### lookups -/
theorem look_mem {cs : List (Int × Card)} {t : Int} {c : Card} (h : look cs t = some c) : (t, c) ∈ cs := by
  induction cs with
  | nil => cases h
  | cons p r ih =>
    unfold look at h
    by_cases e : p.1 = t
    · rw [if_pos e] at h
      have e2 := Option.some.inj h
      have e3 : p = (t, c) := by rw [← e, ← e2]
      rw [e3]; exact List.mem_cons_self
    · rw [if_neg e] at h
      exact List.mem_cons_of_mem _ (ih h)
theorem look_up {cs : List (Int × Card)} {t u : Int} {f : Card → Card} : look (cs.map fun p => if p.1 = t then (p.1, f p.2) else p) u = if u = t then (look cs u).map f else look cs u := by
  induction cs with
  | nil => simp [look]
  | cons p r ih =>
    rw [List.map_cons]
    by_cases e : p.1 = t
    · rw [if_pos e]
      unfold look
      by_cases e2 : p.1 = u
      · rw [if_pos e2, if_pos e2, if_pos (by rw [← e2, e])]; rfl
      · rw [if_neg e2, if_neg e2]; exact ih
    · rw [if_neg e]
      unfold look
      by_cases e2 : p.1 = u
      · rw [if_pos e2, if_pos e2, if_neg (by rw [← e2]; exact e)]
      · rw [if_neg e2, if_neg e2]; exact ih
theorem look_map {cs : List (Int × Card)} {u : Int} {f : Card → Card} : look (cs.map fun p => (p.1, f p.2)) u = (look cs u).map f := by
  induction cs with
  | nil => rfl
  | cons p r ih =>
    rw [List.map_cons]
    unfold look
    by_cases e2 : p.1 = u
    · rw [if_pos e2, if_pos e2]; rfl
    · rw [if_neg e2, if_neg e2]; exact ih
theorem look_snoc {cs : List (Int × Card)} {t u : Int} {c : Card} (h : look cs t = none) : look (cs ++ [(t, c)]) u = if u = t then some c else look cs u := by
  induction cs with
  | nil =>
    by_cases e : t = u
    · simp [look, e]
    · simp [look, e, Ne.symm e]
  | cons p r ih =>
    rw [List.cons_append]
    unfold look at h ⊢
    by_cases e : p.1 = t
    · rw [if_pos e] at h; cases h
    · rw [if_neg e] at h
      by_cases e2 : p.1 = u
      · rw [if_pos e2, if_pos e2, if_neg (by rw [← e2]; exact e)]
      · rw [if_neg e2, if_neg e2]; exact ih h
theorem look_drop {cs : List (Int × Card)} {t u : Int} : look (cs.filter fun p => decide (p.1 ≠ t)) u = if u = t then none else look cs u := by
  induction cs with
  | nil => simp [look]
  | cons p r ih =>
    by_cases e : p.1 = t
    · rw [List.filter_cons_of_neg (by simp [e]), ih]
      by_cases e2 : u = t
      · rw [if_pos e2, if_pos e2]
      · rw [if_neg e2, if_neg e2]
        conv => rhs; unfold look
        rw [if_neg (by rw [e]; exact fun z => e2 z.symm)]
    · rw [List.filter_cons_of_pos (by simp [e])]
      unfold look
      by_cases e2 : p.1 = u
      · rw [if_pos e2, if_neg (by rw [← e2]; exact e), if_pos e2]
      · rw [if_neg e2, ih, if_neg e2]
/-! the same in the dict of references -/
def refs (g : Int → Addr) (cs : List (Int × Card)) : List (Key × V) := cs.map fun p => (Sum.inl p.1, V.ref (g p.1))
theorem valV_refs {g : Int → Addr} {cs : List (Int × Card)} {t : Int} : valV (refs g cs) (Sum.inl t) = (look cs t).map fun _ => V.ref (g t) := by
  induction cs with
  | nil => rfl
  | cons p r ih =>
    unfold refs look
    rw [List.map_cons]
    by_cases e : p.1 = t
    · rw [valV_pos (by rw [e]), if_pos e, e]; rfl
    · rw [valV_neg (by intro z; exact e (Sum.inl.inj z)), if_neg e]; exact ih
theorem refs_up {g : Int → Addr} {cs : List (Int × Card)} {t : Int} {f : Card → Card} : refs g (cs.map fun p => if p.1 = t then (p.1, f p.2) else p) = refs g cs := by
  unfold refs
  rw [List.map_map]
  apply List.map_congr_left
  intro p _
  by_cases e : p.1 = t
  · simp [e]
  · simp [e]
theorem refs_map {g : Int → Addr} {cs : List (Int × Card)} {f : Card → Card} : refs g (cs.map fun p => (p.1, f p.2)) = refs g cs := by
  unfold refs
  rw [List.map_map]; rfl
theorem refs_drop {g : Int → Addr} {cs : List (Int × Card)} {t : Int} : dropK (refs g cs) (Sum.inl t) = refs g (cs.filter fun p => decide (p.1 ≠ t)) := by
  unfold refs dropK
  rw [List.filter_map]
  congr 1
  apply List.filter_congr
  intro p _
  simp [Function.comp]
theorem refs_put {g : Int → Addr} {cs : List (Int × Card)} {t : Int} {c : Card} {x : Addr} (h : look cs t = none) :
    putK (refs g cs) (Sum.inl t) (V.ref x) = refs (fun u => if u = t then x else g u) (cs ++ [(t, c)]) := by
  rw [putK_new _ (by rw [valV_refs, h]; rfl)]
  unfold refs
  rw [List.map_append]
  congr 1
  · apply List.map_congr_left
    intro p hp
    have ne : p.1 ≠ t := by
      intro e
      have : ∀ (cs : List (Int × Card)), p ∈ cs → look cs p.1 ≠ none := by
        intro cs hm
        induction cs with
        | nil => cases hm
        | cons q r ih =>
          unfold look
          by_cases e2 : q.1 = p.1
          · rw [if_pos e2]; simp
          · rw [if_neg e2]
            rcases List.mem_cons.mp hm with z | z
            · exact absurd (by rw [z]) e2
            · exact ih z
      exact this cs hp (by rw [e]; exact h)
    simp [ne]
  · simp

/-! ### how a heap bears it -/
inductive LC where
  | self | cards | rws | row (i : Nat) | card (t : Int) | spt (t : Int)
  deriving DecidableEq
structure Geo where
  adr : LC → Addr
  dx : Addr
  cdx : Int → Addr
  ra : Addr
def LF (g : Geo) (z : Int) : List (Str × V) := [("rules", .ref g.ra), ("cards", .ref (g.adr .cards)), ("rows", .ref (g.adr .rws)), ("time", .int z)]
def CF (c : Card) (s : Addr) : List (Str × V) := [("line", .int c.line), ("quantum", .int c.q), ("share", .int c.sh), ("is_ready", .bl c.rdy), ("spent", .ref s)]
/-- how the whole and a card look; no tuples -/
structure Kd where
  self : Geo → Int → HO
  card : Geo → Int → Card → Addr → HO
  self_no : ∀ g z xs, self g z ≠ .tup xs
  card_no : ∀ g t c s xs, card g t c s ≠ .tup xs
  card_sp : ∀ g t (c : Card) s xs, card g t { c with sp := xs } s = card g t c s
  self_at : ∀ g g' z, g'.dx = g.dx → g'.ra = g.ra → g'.adr .cards = g.adr .cards → g'.adr .rws = g.adr .rws → self g' z = self g z
  card_at : ∀ g g' t c s, g'.cdx t = g.cdx t → card g' t c s = card g t c s
def LKd (CL CC : Addr) : Kd where
  self := fun g z => .ins CL g.dx (LF g z)
  card := fun g t c s => .ins CC (g.cdx t) (CF c s)
  self_no := fun _ _ _ e => nomatch e
  card_no := fun _ _ _ _ _ e => nomatch e
  card_sp := fun _ _ _ _ _ => rfl
  self_at := fun g g' z h1 h2 h3 h4 => by unfold LF; rw [h1, h2, h3, h4]
  card_at := fun g g' t c s h => by rw [h]
def lcont (kd : Kd) (g : Geo) (S : LSt) : LC → Option HO
  | .self => some (kd.self g S.time)
  | .cards => some (.dK (refs (fun t => g.adr (.card t)) S.cards))
  | .rws => some (.lst ((List.range S.rows.length).map fun i => V.ref (g.adr (.row i))))
  | .row i => (S.rows[i]?).map fun xs => .lst (xs.map V.int)
  | .card t => (look S.cards t).map fun c => kd.card g t c (g.adr (.spt t))
  | .spt t => (look S.cards t).map fun c => .lst (c.sp.map V.int)
def live (S : LSt) : LC → Prop
  | .row i => i < S.rows.length
  | .card t => look S.cards t ≠ none
  | .spt t => look S.cards t ≠ none
  | _ => True
def Foot (g : Geo) (S : LSt) (a : Addr) : Prop := ∃ i, live S i ∧ g.adr i = a
structure LR (kd : Kd) (g : Geo) (S : LSt) (H : Hp) : Prop where
  there : ∀ i o, lcont kd g S i = some o → H (g.adr i) = some o
  inj : ∀ i j, live S i → live S j → g.adr i = g.adr j → i = j
section
variable {kd : Kd} {g : Geo} {S S' : LSt} {H H' : Hp}
theorem live_cont {i : LC} (h : live S i) : ∃ o, lcont kd g S i = some o := by
  cases i with
  | self => exact ⟨_, rfl⟩
  | cards => exact ⟨_, rfl⟩
  | rws => exact ⟨_, rfl⟩
  | row i =>
    have h' : i < S.rows.length := h
    exact ⟨_, by simp only [lcont]; rw [List.getElem?_eq_getElem h']; rfl⟩
  | card t =>
    have h' : look S.cards t ≠ none := h
    cases e : look S.cards t with
    | none => exact absurd e h'
    | some c => exact ⟨_, by simp only [lcont]; rw [e]; rfl⟩
  | spt t =>
    have h' : look S.cards t ≠ none := h
    cases e : look S.cards t with
    | none => exact absurd e h'
    | some c => exact ⟨_, by simp only [lcont]; rw [e]; rfl⟩
theorem cont_live {i : LC} {o : HO} (h : lcont kd g S i = some o) : live S i := by
  cases i with
  | self => trivial
  | cards => trivial
  | rws => trivial
  | row i =>
    simp only [lcont] at h
    cases e : S.rows[i]? with
    | none => rw [e] at h; cases h
    | some xs => exact (List.getElem?_eq_some_iff.mp e).1
  | card t =>
    simp only [lcont] at h
    show look S.cards t ≠ none
    intro e; rw [e] at h; cases h
  | spt t =>
    simp only [lcont] at h
    show look S.cards t ≠ none
    intro e; rw [e] at h; cases h
theorem cont_noTup {i : LC} {o : HO} (h : lcont kd g S i = some o) : ∀ xs, o ≠ .tup xs := by
  intro xs e
  subst e
  cases i with
  | self => exact kd.self_no _ _ _ (Option.some.inj h)
  | cards => cases h
  | rws => cases h
  | row i => simp only [lcont] at h; cases e : S.rows[i]? <;> rw [e] at h <;> cases h
  | card t =>
    simp only [lcont] at h
    cases e : look S.cards t with
    | none => rw [e] at h; cases h
    | some c => rw [e] at h; exact kd.card_no _ _ _ _ _ (Option.some.inj h)
  | spt t => simp only [lcont] at h; cases e : look S.cards t <;> rw [e] at h <;> cases h
theorem LR.owned (h : LR kd g S H) {a : Addr} (w : Foot g S a) : ∃ o, H a = some o ∧ ∀ xs, o ≠ .tup xs := by
  obtain ⟨i, hi, rfl⟩ := w
  obtain ⟨o, ho⟩ := live_cont (kd := kd) (g := g) hi
  exact ⟨o, h.there i o ho, cont_noTup ho⟩
/-- the heap changes elsewhere -/
theorem LR.keep (h : LR kd g S H) (k : ∀ a, Foot g S a → H' a = H a) : LR kd g S H' :=
  ⟨fun i o e => (k _ ⟨i, cont_live e, rfl⟩).trans (h.there i o e), h.inj⟩
theorem LR.same (h : LR kd g S H) (k : Same H H') : LR kd g S H' :=
  ⟨fun i o e => k _ _ (h.there i o e), h.inj⟩
theorem LR.frame {U : Addr → Prop} (h : LR kd g S H) (k : Frame U H H') (d : ∀ a, U a → ¬ Foot g S a) : LR kd g S H' :=
  ⟨fun i o e => k.1 _ _ (h.there i o e) fun z => d _ z ⟨i, cont_live e, rfl⟩, h.inj⟩
/-- one cell changes -/
theorem LR.set {i : LC} {o : HO} (h : LR kd g S H) (hl : live S i) (he : lcont kd g S' i = some o) (hs : ∀ j, j ≠ i → lcont kd g S' j = lcont kd g S j) : LR kd g S' (upd H (g.adr i) o) := by
  have lv : ∀ j, live S' j → live S j := fun j hj => by
    by_cases e : j = i
    · rw [e]; exact hl
    · obtain ⟨u, hu⟩ := live_cont (kd := kd) (g := g) hj
      rw [hs j e] at hu
      exact cont_live hu
  refine ⟨fun j u e => ?_, fun j k hj hk => h.inj j k (lv j hj) (lv k hk)⟩
  by_cases ej : j = i
  · subst ej
    rw [he] at e
    rw [upd_same, Option.some.inj e]
  · rw [hs j ej] at e
    rw [upd_ne fun z => ej (h.inj j i (cont_live e) hl z)]
    exact h.there j u e
theorem LR.hself (h : LR kd g S H) : H (g.adr .self) = some (kd.self g S.time) := h.there _ _ rfl
theorem LR.hcards (h : LR kd g S H) : H (g.adr .cards) = some (.dK (refs (fun t => g.adr (.card t)) S.cards)) := h.there _ _ rfl
theorem LR.hrws (h : LR kd g S H) : H (g.adr .rws) = some (.lst ((List.range S.rows.length).map fun i => V.ref (g.adr (.row i)))) := h.there _ _ rfl
theorem LR.hrow (h : LR kd g S H) {i : Nat} {xs : List Int} (e : S.rows[i]? = some xs) : H (g.adr (.row i)) = some (.lst (xs.map V.int)) := h.there _ _ (by simp only [lcont]; rw [e]; rfl)
theorem LR.hcard (h : LR kd g S H) {t : Int} {c : Card} (e : look S.cards t = some c) : H (g.adr (.card t)) = some (kd.card g t c (g.adr (.spt t))) := h.there _ _ (by simp only [lcont]; rw [e]; rfl)
theorem LR.hspt (h : LR kd g S H) {t : Int} {c : Card} (e : look S.cards t = some c) : H (g.adr (.spt t)) = some (.lst (c.sp.map V.int)) := h.there _ _ (by simp only [lcont]; rw [e]; rfl)
/-! the changes by name -/
theorem cont_upC {t : Int} {f : Card → Card} {j : LC} (h1 : j ≠ .card t) (h2 : j ≠ .spt t) : lcont kd g (S.upC t f) j = lcont kd g S j := by
  cases j with
  | self => rfl
  | cards => simp only [lcont, LSt.upC]; rw [refs_up]
  | rws => rfl
  | row i => rfl
  | card u =>
    have ne : u ≠ t := fun z => h1 (by rw [z])
    simp only [lcont, LSt.upC]; rw [look_up, if_neg ne]
  | spt u =>
    have ne : u ≠ t := fun z => h2 (by rw [z])
    simp only [lcont, LSt.upC]; rw [look_up, if_neg ne]
theorem look_upC {t u : Int} {f : Card → Card} : look (S.upC t f).cards u = if u = t then (look S.cards u).map f else look S.cards u := look_up
theorem LR.setC {t : Int} {c : Card} {f : Card → Card} (h : LR kd g S H) (e : look S.cards t = some c) (hf : (f c).sp = c.sp) :
    LR kd g (S.upC t f) (upd H (g.adr (.card t)) (kd.card g t (f c) (g.adr (.spt t)))) := by
  refine h.set (i := .card t) (by show look S.cards t ≠ none; rw [e]; simp) (by simp only [lcont]; rw [look_upC, if_pos rfl, e]; rfl) fun j hj => ?_
  by_cases h2 : j = .spt t
  · subst h2
    simp only [lcont]; rw [look_upC, if_pos rfl, e]
    show some (HO.lst ((f c).sp.map V.int)) = some (HO.lst (c.sp.map V.int))
    rw [hf]
  · exact cont_upC hj h2
theorem LR.setSp {t : Int} {c : Card} {f : List Int → List Int} (h : LR kd g S H) (e : look S.cards t = some c) :
    LR kd g (S.upC t fun c => { c with sp := f c.sp }) (upd H (g.adr (.spt t)) (.lst ((f c.sp).map V.int))) := by
  refine h.set (i := .spt t) (by show look S.cards t ≠ none; rw [e]; simp) (by simp only [lcont]; rw [look_upC, if_pos rfl, e]; rfl) fun j hj => ?_
  by_cases h2 : j = .card t
  · subst h2
    simp only [lcont]; rw [look_upC, if_pos rfl, e]; exact congrArg some (kd.card_sp _ _ _ _ _)
  · exact cont_upC h2 hj
theorem LR.setR {l : Nat} {xs : List Int} {f : List Int → List Int} (h : LR kd g S H) (e : S.rows[l]? = some xs) :
    LR kd g (S.upR l f) (upd H (g.adr (.row l)) (.lst ((f xs).map V.int))) := by
  have hl := (List.getElem?_eq_some_iff.mp e).1
  refine h.set (i := .row l) hl (by
    simp only [lcont, LSt.upR]
    rw [List.getElem?_modify_eq, e]; rfl) fun j hj => ?_
  cases j with
  | self => rfl
  | cards => rfl
  | rws => simp only [lcont, LSt.upR, List.length_modify]
  | row i =>
    have ne : l ≠ i := fun z => hj (by rw [z])
    simp only [lcont, LSt.upR]
    rw [List.getElem?_modify_ne _ _ ne]
  | card u => rfl
  | spt u => rfl
theorem LR.setT {z : Int} (h : LR kd g S H) : LR kd g { S with time := z } (upd H (g.adr .self) (kd.self g z)) :=
  h.set (i := .self) trivial rfl fun j hj => by
    cases j with
    | self => exact absurd rfl hj
    | cards => rfl
    | rws => rfl
    | row i => rfl
    | card u => rfl
    | spt u => rfl
theorem LR.drop {t : Int} (h : LR kd g S H) : LR kd g (S.drop t) (upd H (g.adr .cards) (.dK (refs (fun t => g.adr (.card t)) (S.drop t).cards))) := by
  have sub : ∀ j o, j ≠ .cards → lcont kd g (S.drop t) j = some o → lcont kd g S j = some o := fun j o hj e => by
    cases j with
    | self => exact e
    | cards => exact absurd rfl hj
    | rws => exact e
    | row i => exact e
    | card u =>
      simp only [lcont, LSt.drop] at e
      rw [look_drop] at e
      by_cases eu : u = t
      · rw [if_pos eu] at e; cases e
      · rw [if_neg eu] at e; exact e
    | spt u =>
      simp only [lcont, LSt.drop] at e
      rw [look_drop] at e
      by_cases eu : u = t
      · rw [if_pos eu] at e; cases e
      · rw [if_neg eu] at e; exact e
  have lv : ∀ j, live (S.drop t) j → live S j := fun j hj => by
    by_cases e : j = .cards
    · subst e; trivial
    · obtain ⟨u, hu⟩ := live_cont (kd := kd) (g := g) hj
      exact cont_live (sub j u e hu)
  refine ⟨fun j u e => ?_, fun j k hj hk => h.inj j k (lv j hj) (lv k hk)⟩
  by_cases ej : j = .cards
  · subst ej
    have e' : some (HO.dK (refs (fun t => g.adr (.card t)) (S.drop t).cards)) = some u := e
    rw [upd_same, e']
  · rw [upd_ne fun z => ej (h.inj j .cards (lv j (cont_live e)) trivial z)]
    exact h.there j u (sub j u ej e)
end
end Qn

/-! Q2: promises by their arguments; fields; isinstance; rules in a heap. -/
namespace Qn
open PySem L2
/-! ### promises by their arguments -/
def sp1 (F : V → Hp → VK → XK → Prop) : Sp := fun vs H Q E => ∃ x, vs = [x] ∧ F x H Q E
def sp2 (F : V → V → Hp → VK → XK → Prop) : Sp := fun vs H Q E => ∃ x y, vs = [x, y] ∧ F x y H Q E
def sp3 (F : V → V → V → Hp → VK → XK → Prop) : Sp := fun vs H Q E => ∃ x y z, vs = [x, y, z] ∧ F x y z H Q E
def sp4 (F : V → V → V → V → Hp → VK → XK → Prop) : Sp := fun vs H Q E => ∃ x y z u, vs = [x, y, z, u] ∧ F x y z u H Q E
section
variable {vs : List V} {H : Hp} {Q : VK} {E : XK}
theorem sp1_len {F : V → Hp → VK → XK → Prop} {p : Str} (h : sp1 F vs H Q E) : vs.length = [p].length := by obtain ⟨_, rfl, _⟩ := h; rfl
theorem sp2_len {F : V → V → Hp → VK → XK → Prop} {p q : Str} (h : sp2 F vs H Q E) : vs.length = [p, q].length := by obtain ⟨_, _, rfl, _⟩ := h; rfl
theorem sp3_len {F : V → V → V → Hp → VK → XK → Prop} {p q r : Str} (h : sp3 F vs H Q E) : vs.length = [p, q, r].length := by obtain ⟨_, _, _, rfl, _⟩ := h; rfl
theorem sp4_len {F : V → V → V → V → Hp → VK → XK → Prop} {p q r t : Str} (h : sp4 F vs H Q E) : vs.length = [p, q, r, t].length := by obtain ⟨_, _, _, _, rfl, _⟩ := h; rfl
theorem sp1_mk {F : V → Hp → VK → XK → Prop} {x : V} (h : F x H Q E) : sp1 F [x] H Q E := ⟨x, rfl, h⟩
theorem sp2_mk {F : V → V → Hp → VK → XK → Prop} {x y : V} (h : F x y H Q E) : sp2 F [x, y] H Q E := ⟨x, y, rfl, h⟩
theorem sp3_mk {F : V → V → V → Hp → VK → XK → Prop} {x y z : V} (h : F x y z H Q E) : sp3 F [x, y, z] H Q E := ⟨x, y, z, rfl, h⟩
theorem sp4_mk {F : V → V → V → V → Hp → VK → XK → Prop} {x y z u : V} (h : F x y z u H Q E) : sp4 F [x, y, z, u] H Q E := ⟨x, y, z, u, rfl, h⟩
end
/-! ### fields -/
theorem lk_hit {f : Str} {v : V} {r : List (Str × V)} : List.lookup f ((f, v) :: r) = some v := by simp [List.lookup]
theorem lk_miss {f g : Str} {v : V} {r : List (Str × V)} (h : (f == g) = false) : List.lookup f ((g, v) :: r) = List.lookup f r := by simp [List.lookup, h]
theorem put_hit {f : Str} {v u : V} {r : List (Str × V)} : putF f v ((f, u) :: r) = (f, v) :: r := by
  unfold putF; rw [if_pos rfl]
theorem put_miss {f g : Str} {v u : V} {r : List (Str × V)} (h : (g == f) = false) : putF f v ((g, u) :: r) = (g, u) :: putF f v r := by
  have n : ¬ g = f := by intro e; rw [e] at h; simp at h
  conv => lhs; unfold putF
  rw [if_neg n]
theorem put_nil {f : Str} {v : V} : putF f v [] = [(f, v)] := rfl
section
variable {g : Geo} {z z' : Int} {c : Card} {s s' : Addr} {m : Str}
theorem lk_LF_rules : (LF g z).lookup ("rules" : Str) = some (.ref g.ra) := by unfold LF; exact lk_hit
theorem lk_LF_cards : (LF g z).lookup ("cards" : Str) = some (.ref (g.adr .cards)) := by unfold LF; rw [lk_miss (by decide +kernel)]; exact lk_hit
theorem lk_LF_rows : (LF g z).lookup ("rows" : Str) = some (.ref (g.adr .rws)) := by unfold LF; rw [lk_miss (by decide +kernel), lk_miss (by decide +kernel)]; exact lk_hit
theorem lk_LF_time : (LF g z).lookup ("time" : Str) = some (.int z) := by unfold LF; rw [lk_miss (by decide +kernel), lk_miss (by decide +kernel), lk_miss (by decide +kernel)]; exact lk_hit
theorem lk_LF_no (h1 : (m == "rules") = false) (h2 : (m == "cards") = false) (h3 : (m == "rows") = false) (h4 : (m == "time") = false) : (LF g z).lookup m = none := by
  unfold LF; rw [lk_miss h1, lk_miss h2, lk_miss h3, lk_miss h4]; rfl
theorem lk_CF_line : (CF c s).lookup ("line" : Str) = some (.int c.line) := by unfold CF; exact lk_hit
theorem lk_CF_quantum : (CF c s).lookup ("quantum" : Str) = some (.int c.q) := by unfold CF; rw [lk_miss (by decide +kernel)]; exact lk_hit
theorem lk_CF_share : (CF c s).lookup ("share" : Str) = some (.int c.sh) := by unfold CF; rw [lk_miss (by decide +kernel), lk_miss (by decide +kernel)]; exact lk_hit
theorem lk_CF_is_ready : (CF c s).lookup ("is_ready" : Str) = some (.bl c.rdy) := by unfold CF; rw [lk_miss (by decide +kernel), lk_miss (by decide +kernel), lk_miss (by decide +kernel)]; exact lk_hit
theorem lk_CF_spent : (CF c s).lookup ("spent" : Str) = some (.ref s) := by unfold CF; rw [lk_miss (by decide +kernel), lk_miss (by decide +kernel), lk_miss (by decide +kernel), lk_miss (by decide +kernel)]; exact lk_hit
theorem put_LF_time : putF "time" (.int z') (LF g z) = LF g z' := by unfold LF; rw [put_miss (by decide +kernel), put_miss (by decide +kernel), put_miss (by decide +kernel), put_hit]
theorem put_CF_line {l : Nat} : putF "line" (.int l) (CF c s) = CF { c with line := l } s := by unfold CF; rw [put_hit]
theorem put_CF_quantum {i : Int} : putF "quantum" (.int i) (CF c s) = CF { c with q := i } s := by unfold CF; rw [put_miss (by decide +kernel), put_hit]
theorem put_CF_share {i : Int} : putF "share" (.int i) (CF c s) = CF { c with sh := i } s := by unfold CF; rw [put_miss (by decide +kernel), put_miss (by decide +kernel), put_hit]
theorem put_CF_is_ready {b : Bool} : putF "is_ready" (.bl b) (CF c s) = CF { c with rdy := b } s := by unfold CF; rw [put_miss (by decide +kernel), put_miss (by decide +kernel), put_miss (by decide +kernel), put_hit]
theorem len_LF : (LF g z).length < 1000 := by show 4 < 1000; decide
theorem len_CF : (CF c s).length < 1000 := by show 5 < 1000; decide
end
/-! ### isinstance -/
def tyS : V → String
  | .non => "NoneType"
  | .bl _ => "bool"
  | .int _ => "int"
  | .str _ => "str"
  | _ => "?"
/-- a value that is no reference -/
def plainV : V → Bool
  | .non => true
  | .bl _ => true
  | .int _ => true
  | .str _ => true
  | _ => false
section
variable {K : PySem.W.Frag} {H : Hp} {Q : VK} {x : V} {t u : String} {b : Bool}
theorem ty_plain (h : plainV x = true) : TyX K H x (.type (tyS x)) := by
  cases x with
  | non => exact .base .non
  | bl k => exact .base (.bl k)
  | int i => exact .base (.int i)
  | str z => exact .base (.str z)
  | _ => cases h
theorem ty_list {a : Addr} {xs : List V} (h : SqL K H a xs) : TyX K H (.ref a) (.type "list") := by
  rcases h with (h | ⟨o, h⟩) | ⟨o, its, n, hk, hc, _⟩
  · exact .base (.lst h)
  · exact .base (.frz h)
  · exact .kList hk hc
theorem ty_tup {a : Addr} {xs : List V} (h : SqT K H a xs) : TyX K H (.ref a) (.type "tuple") := by
  rcases h with (h | ⟨o, h⟩) | ⟨o, its, n, hk, hc, _⟩
  · exact .base (.tup h)
  · exact .fTuple h
  · exact .kTuple hk hc
theorem r_isi (ty : TyX K H x (.type t)) (h : kitB t u = some b) (k : Q (.bl b) H) : rIsi K [x, .ty u] H Q := ⟨x, .ty u, .type t, .type u, b, rfl, .ty u, ty, kit_ty h, k⟩
end
theorem kb_NoneType_int : kitB "NoneType" "int" = some false := by decide +kernel
theorem kb_NoneType_bool : kitB "NoneType" "bool" = some false := by decide +kernel
theorem kb_NoneType_str : kitB "NoneType" "str" = some false := by decide +kernel
theorem kb_NoneType_tuple : kitB "NoneType" "tuple" = some false := by decide +kernel
theorem kb_NoneType_list : kitB "NoneType" "list" = some false := by decide +kernel
theorem kb_bool_int : kitB "bool" "int" = some true := by decide +kernel
theorem kb_bool_bool : kitB "bool" "bool" = some true := by decide +kernel
theorem kb_bool_str : kitB "bool" "str" = some false := by decide +kernel
theorem kb_bool_tuple : kitB "bool" "tuple" = some false := by decide +kernel
theorem kb_bool_list : kitB "bool" "list" = some false := by decide +kernel
theorem kb_int_int : kitB "int" "int" = some true := by decide +kernel
theorem kb_int_bool : kitB "int" "bool" = some false := by decide +kernel
theorem kb_int_str : kitB "int" "str" = some false := by decide +kernel
theorem kb_int_tuple : kitB "int" "tuple" = some false := by decide +kernel
theorem kb_int_list : kitB "int" "list" = some false := by decide +kernel
theorem kb_str_int : kitB "str" "int" = some false := by decide +kernel
theorem kb_str_bool : kitB "str" "bool" = some false := by decide +kernel
theorem kb_str_str : kitB "str" "str" = some true := by decide +kernel
theorem kb_str_tuple : kitB "str" "tuple" = some false := by decide +kernel
theorem kb_str_list : kitB "str" "list" = some false := by decide +kernel
theorem kb_tuple_int : kitB "tuple" "int" = some false := by decide +kernel
theorem kb_tuple_bool : kitB "tuple" "bool" = some false := by decide +kernel
theorem kb_tuple_str : kitB "tuple" "str" = some false := by decide +kernel
theorem kb_tuple_tuple : kitB "tuple" "tuple" = some true := by decide +kernel
theorem kb_tuple_list : kitB "tuple" "list" = some false := by decide +kernel
theorem kb_list_int : kitB "list" "int" = some false := by decide +kernel
theorem kb_list_bool : kitB "list" "bool" = some false := by decide +kernel
theorem kb_list_str : kitB "list" "str" = some false := by decide +kernel
theorem kb_list_tuple : kitB "list" "tuple" = some false := by decide +kernel
theorem kb_list_list : kitB "list" "list" = some true := by decide +kernel
section
variable {K : PySem.W.Frag} {H : Hp} {Q : VK} {i : Int} {c : Bool} {z : Str} {p : Addr} {xs : List V}
instance rd_isi_NoneType_int : Rd (rIsi K [.non, .ty "int"] H Q) (Q (.bl false) H) := ⟨fun k => r_isi (t := "NoneType") (.base .non) kb_NoneType_int k⟩
instance rd_isi_NoneType_bool : Rd (rIsi K [.non, .ty "bool"] H Q) (Q (.bl false) H) := ⟨fun k => r_isi (t := "NoneType") (.base .non) kb_NoneType_bool k⟩
instance rd_isi_NoneType_str : Rd (rIsi K [.non, .ty "str"] H Q) (Q (.bl false) H) := ⟨fun k => r_isi (t := "NoneType") (.base .non) kb_NoneType_str k⟩
instance rd_isi_NoneType_tuple : Rd (rIsi K [.non, .ty "tuple"] H Q) (Q (.bl false) H) := ⟨fun k => r_isi (t := "NoneType") (.base .non) kb_NoneType_tuple k⟩
instance rd_isi_NoneType_list : Rd (rIsi K [.non, .ty "list"] H Q) (Q (.bl false) H) := ⟨fun k => r_isi (t := "NoneType") (.base .non) kb_NoneType_list k⟩
instance rd_isi_bool_int : Rd (rIsi K [(.bl c), .ty "int"] H Q) (Q (.bl true) H) := ⟨fun k => r_isi (t := "bool") (.base (.bl _)) kb_bool_int k⟩
instance rd_isi_bool_bool : Rd (rIsi K [(.bl c), .ty "bool"] H Q) (Q (.bl true) H) := ⟨fun k => r_isi (t := "bool") (.base (.bl _)) kb_bool_bool k⟩
instance rd_isi_bool_str : Rd (rIsi K [(.bl c), .ty "str"] H Q) (Q (.bl false) H) := ⟨fun k => r_isi (t := "bool") (.base (.bl _)) kb_bool_str k⟩
instance rd_isi_bool_tuple : Rd (rIsi K [(.bl c), .ty "tuple"] H Q) (Q (.bl false) H) := ⟨fun k => r_isi (t := "bool") (.base (.bl _)) kb_bool_tuple k⟩
instance rd_isi_bool_list : Rd (rIsi K [(.bl c), .ty "list"] H Q) (Q (.bl false) H) := ⟨fun k => r_isi (t := "bool") (.base (.bl _)) kb_bool_list k⟩
instance rd_isi_int_int : Rd (rIsi K [(.int i), .ty "int"] H Q) (Q (.bl true) H) := ⟨fun k => r_isi (t := "int") (.base (.int _)) kb_int_int k⟩
instance rd_isi_int_bool : Rd (rIsi K [(.int i), .ty "bool"] H Q) (Q (.bl false) H) := ⟨fun k => r_isi (t := "int") (.base (.int _)) kb_int_bool k⟩
instance rd_isi_int_str : Rd (rIsi K [(.int i), .ty "str"] H Q) (Q (.bl false) H) := ⟨fun k => r_isi (t := "int") (.base (.int _)) kb_int_str k⟩
instance rd_isi_int_tuple : Rd (rIsi K [(.int i), .ty "tuple"] H Q) (Q (.bl false) H) := ⟨fun k => r_isi (t := "int") (.base (.int _)) kb_int_tuple k⟩
instance rd_isi_int_list : Rd (rIsi K [(.int i), .ty "list"] H Q) (Q (.bl false) H) := ⟨fun k => r_isi (t := "int") (.base (.int _)) kb_int_list k⟩
instance rd_isi_str_int : Rd (rIsi K [(.str z), .ty "int"] H Q) (Q (.bl false) H) := ⟨fun k => r_isi (t := "str") (.base (.str _)) kb_str_int k⟩
instance rd_isi_str_bool : Rd (rIsi K [(.str z), .ty "bool"] H Q) (Q (.bl false) H) := ⟨fun k => r_isi (t := "str") (.base (.str _)) kb_str_bool k⟩
instance rd_isi_str_str : Rd (rIsi K [(.str z), .ty "str"] H Q) (Q (.bl true) H) := ⟨fun k => r_isi (t := "str") (.base (.str _)) kb_str_str k⟩
instance rd_isi_str_tuple : Rd (rIsi K [(.str z), .ty "tuple"] H Q) (Q (.bl false) H) := ⟨fun k => r_isi (t := "str") (.base (.str _)) kb_str_tuple k⟩
instance rd_isi_str_list : Rd (rIsi K [(.str z), .ty "list"] H Q) (Q (.bl false) H) := ⟨fun k => r_isi (t := "str") (.base (.str _)) kb_str_list k⟩
theorem r_isi_tuple_int (h : SqT K H p xs) (k : Q (.bl false) H) : rIsi K [.ref p, .ty "int"] H Q := r_isi (t := "tuple") (ty_tup h) kb_tuple_int k
theorem r_isi_tuple_bool (h : SqT K H p xs) (k : Q (.bl false) H) : rIsi K [.ref p, .ty "bool"] H Q := r_isi (t := "tuple") (ty_tup h) kb_tuple_bool k
theorem r_isi_tuple_str (h : SqT K H p xs) (k : Q (.bl false) H) : rIsi K [.ref p, .ty "str"] H Q := r_isi (t := "tuple") (ty_tup h) kb_tuple_str k
theorem r_isi_tuple_tuple (h : SqT K H p xs) (k : Q (.bl true) H) : rIsi K [.ref p, .ty "tuple"] H Q := r_isi (t := "tuple") (ty_tup h) kb_tuple_tuple k
theorem r_isi_tuple_list (h : SqT K H p xs) (k : Q (.bl false) H) : rIsi K [.ref p, .ty "list"] H Q := r_isi (t := "tuple") (ty_tup h) kb_tuple_list k
theorem r_isi_list_int (h : SqL K H p xs) (k : Q (.bl false) H) : rIsi K [.ref p, .ty "int"] H Q := r_isi (t := "list") (ty_list h) kb_list_int k
theorem r_isi_list_bool (h : SqL K H p xs) (k : Q (.bl false) H) : rIsi K [.ref p, .ty "bool"] H Q := r_isi (t := "list") (ty_list h) kb_list_bool k
theorem r_isi_list_str (h : SqL K H p xs) (k : Q (.bl false) H) : rIsi K [.ref p, .ty "str"] H Q := r_isi (t := "list") (ty_list h) kb_list_str k
theorem r_isi_list_tuple (h : SqL K H p xs) (k : Q (.bl false) H) : rIsi K [.ref p, .ty "tuple"] H Q := r_isi (t := "list") (ty_list h) kb_list_tuple k
theorem r_isi_list_list (h : SqL K H p xs) (k : Q (.bl true) H) : rIsi K [.ref p, .ty "list"] H Q := r_isi (t := "list") (ty_list h) kb_list_list k
end
section
variable {α : Type} {x0 x1 x2 x3 x4 : α} {r : List α}
theorem at_z {xs : List α} (h : xs[0]? = some x0) : atI xs 0 = some x0 := atI_nat (j := 0) h
theorem at_0 : atI (x0 :: r) 0 = some x0 := atI_nat (j := 0) rfl
theorem at_1 : atI (x0 :: x1 :: r) 1 = some x1 := atI_nat (j := 1) rfl
theorem at_2 : atI (x0 :: x1 :: x2 :: r) 2 = some x2 := atI_nat (j := 2) rfl
theorem at_3 : atI (x0 :: x1 :: x2 :: x3 :: r) 3 = some x3 := atI_nat (j := 3) rfl
theorem at_4 : atI (x0 :: x1 :: x2 :: x3 :: x4 :: r) 4 = some x4 := atI_nat (j := 4) rfl
end
/-! ### rules in a heap -/
def bV : Option Int → V
  | none => .non
  | some b => .int b
def chS (k : Bool) : Str := if k then "kept" else "anew"
theorem chS_in (k : Bool) : inV (.str (chS k)) [.str "kept", .str "anew"] = true := by cases k <;> decide +kernel
theorem chS_kept (k : Bool) : decide (chS k = "kept") = k := by cases k <;> decide +kernel
theorem chS_anew (k : Bool) : decide (chS k = "anew") = !k := by cases k <;> decide +kernel
instance rd_bVn {b : Option Int} {H : Hp} {Q : VK} : Rd (rNotN (bV b) .non H Q) (Q (.bl b.isSome) H) := ⟨fun k => r_notN (by cases b <;> exact k)⟩
theorem bV_non (b : Option Int) : decide (bV b = .non) = b.isNone := by cases b <;> simp [bV]
structure RulAt (H : Hp) (ra : Addr) (R : Rul) (la : Addr) (ps : List Addr) : Prop where
  rules : H ra = some (.tup [.ref la, bV R.boost, .str (chS R.kept)])
  lines : H la = some (.tup (ps.map V.ref))
  len : ps.length = R.lines.length
  pair : ∀ i p, ps[i]? = some p → H p = some (.tup [.int (R.q i), .int (R.s i)])
section
variable {H H' : Hp} {ra la : Addr} {R : Rul} {ps : List Addr} {W : Addr → Prop}
theorem RulAt.frame (h : RulAt H ra R la ps) (k : Frame W H H') : RulAt H' ra R la ps := ⟨k.2 _ _ h.rules, k.2 _ _ h.lines, h.len, fun i p e => k.2 _ _ (h.pair i p e)⟩
theorem RulAt.same (h : RulAt H ra R la ps) (k : Same H H') : RulAt H' ra R la ps := ⟨k _ _ h.rules, k _ _ h.lines, h.len, fun i p e => k _ _ (h.pair i p e)⟩
theorem RulAt.line (h : RulAt H ra R la ps) {l : Nat} (hl : l < R.lines.length) : ∃ p, (ps.map V.ref)[l]? = some (.ref p) ∧ H p = some (.tup [.int (R.q l), .int (R.s l)]) := by
  have hl' : l < ps.length := by rw [h.len]; exact hl
  refine ⟨ps[l], by rw [List.getElem?_map, List.getElem?_eq_getElem hl']; rfl, h.pair l _ (List.getElem?_eq_getElem hl')⟩
end
end Qn

/-! Q3: data at any depth: shapes, comparisons with nothing, whole numbers in lists. -/
namespace Qn
open PySem L2
/-- data of a depth -/
def Sh (n : Nat) (d : PyData) : Prop := d.canLay0 = true ∧ d.depth ≤ n
theorem Sh.ok {n : Nat} {d : PyData} (h : Sh n d) (hn : n ≤ 64) : SeqAt.shaped d = true := by
  unfold SeqAt.shaped
  rw [h.1, Bool.true_and]
  exact decide_eq_true (Nat.le_trans h.2 hn)
theorem Sh.mono {n m : Nat} {d : PyData} (h : Sh n d) (hn : n ≤ m) : Sh m d := ⟨h.1, Nat.le_trans h.2 hn⟩
theorem sh_int {n : Nat} {i : Int} : Sh n (.int i) := ⟨by simp [PyData.canLay0], by simp [PyData.depth]⟩
theorem sh_bool {n : Nat} {b : Bool} : Sh n (.bool b) := ⟨by simp [PyData.canLay0], by simp [PyData.depth]⟩
theorem sh_none {n : Nat} : Sh n .none := ⟨by simp [PyData.canLay0], by simp [PyData.depth]⟩
theorem shAll {n : Nat} : ∀ {ds : List PyData}, (∀ d ∈ ds, Sh n d) → PyData.canLayAll0 ds = true ∧ PyData.depthAll ds ≤ n
  | [], _ => ⟨by simp [PyData.canLayAll0], by simp [PyData.depthAll]⟩
  | d :: r, h => by
    obtain ⟨h1, h2⟩ := h d List.mem_cons_self
    obtain ⟨h3, h4⟩ := shAll (ds := r) fun x hx => h x (List.mem_cons_of_mem _ hx)
    refine ⟨by rw [PyData.canLayAll0, h1, h3]; rfl, ?_⟩
    rw [PyData.depthAll]
    exact Nat.max_le.mpr ⟨h2, h4⟩
theorem sh_tup {n : Nat} {ds : List PyData} (h : ∀ d ∈ ds, Sh n d) : Sh (n + 1) (.tuple ds) := by
  obtain ⟨h1, h2⟩ := shAll h
  exact ⟨by simp [PyData.canLay0, h1], by simp only [PyData.depth]; omega⟩
theorem sh_lst {n : Nat} {ds : List PyData} (h : ∀ d ∈ ds, Sh n d) : Sh (n + 1) (.list ds) := by
  obtain ⟨h1, h2⟩ := shAll h
  exact ⟨by simp [PyData.canLay0, h1], by simp only [PyData.depth]; omega⟩
theorem sh_nil {n : Nat} : ∀ d ∈ ([] : List PyData), Sh n d := fun d h => by cases h
theorem sh_cons {n : Nat} {x : PyData} {r : List PyData} (h1 : Sh n x) (h2 : ∀ d ∈ r, Sh n d) : ∀ d ∈ x :: r, Sh n d := fun d h => by
  rcases List.mem_cons.mp h with z | z
  · rw [z]; exact h1
  · exact h2 d z
theorem sh_map {α : Type} {n : Nat} {f : α → PyData} {xs : List α} (h : ∀ x, Sh n (f x)) : ∀ d ∈ xs.map f, Sh n d := fun d hd => by
  obtain ⟨x, _, e⟩ := List.mem_map.mp hd
  rw [← e]; exact h x
theorem sh_ints {xs : List Int} : Sh 1 (.list (xs.map .int)) := sh_lst (sh_map fun _ => sh_int)
theorem eqvAll_nil (ds : List PyData) : PyData.eqvAll ds [] = ds.isEmpty := by
  cases ds with
  | nil => simp [PyData.eqvAll]
  | cons d r => simp [PyData.eqvAll]
section
variable {K : PySem.W.Frag} {H : Hp} {Q : VK} {x y : V} {a p : Addr} {ds es : List PyData} {n : Nat} {ns : List Int}
theorem dpAll_map {α : Type} {f : α → V} {g : α → PyData} {xs : List α} (h : ∀ x ∈ xs, Dp K H (f x) (g x)) : DpAll K H (xs.map f) (xs.map g) := by
  induction xs with
  | nil => exact .nil
  | cons x r ih => exact .cons (h x List.mem_cons_self) (ih fun y hy => h y (List.mem_cons_of_mem _ hy))
theorem dp_ints (h : SqL K H a (ns.map V.int)) : Dp K H (.ref a) (.list (ns.map .int)) := .lst h (dpAll_map fun i _ => .int i)
theorem dp_nilL (h : SqL K H a []) : Dp K H (.ref a) (.list []) := .lst h .nil
theorem dp_nilT (h : SqT K H a []) : Dp K H (.ref a) (.tuple []) := .tup h .nil
theorem r_eqE_tup (h : Dp K H x (.tuple ds)) (s : Sh 60 (.tuple ds)) (hp : SqT K H p []) (k : Q (.bl ds.isEmpty) H) : rEqD K x (.ref p) H Q :=
  r_eqD h (dp_nilT hp) (s.ok (by decide)) ((sh_tup (n := 0) sh_nil).ok (by decide)) (by
    have e : PyData.eqv (.tuple ds) (.tuple []) = ds.isEmpty := by rw [PyData.eqv]; exact eqvAll_nil ds
    rw [e]; exact k)
theorem r_eqE_lst (h : Dp K H x (.list ds)) (s : Sh 60 (.list ds)) (hp : SqL K H p []) (k : Q (.bl ds.isEmpty) H) : rEqD K x (.ref p) H Q :=
  r_eqD h (dp_nilL hp) (s.ok (by decide)) ((sh_lst (n := 0) sh_nil).ok (by decide)) (by
    have e : PyData.eqv (.list ds) (.list []) = ds.isEmpty := by rw [PyData.eqv]; exact eqvAll_nil ds
    rw [e]; exact k)
theorem r_neE_lst (h : Dp K H x (.list ds)) (s : Sh 60 (.list ds)) (hp : SqL K H p []) (k : Q (.bl (!ds.isEmpty)) H) : rNeD K x (.ref p) H Q :=
  r_neD h (dp_nilL hp) (s.ok (by decide)) ((sh_lst (n := 0) sh_nil).ok (by decide)) (by
    have e : PyData.eqv (.list ds) (.list []) = ds.isEmpty := by rw [PyData.eqv]; exact eqvAll_nil ds
    rw [e]; exact k)
/-- a list of whole numbers against [] -/
theorem r_neE_ints (h : SqL K H a (ns.map V.int)) (hp : SqL K H p []) (k : Q (.bl (!ns.isEmpty)) H) : rNeD K (.ref a) (.ref p) H Q :=
  r_neE_lst (dp_ints h) (sh_ints.mono (by decide)) hp (by rw [List.isEmpty_map]; exact k)
theorem r_eqE_ints (h : SqL K H a (ns.map V.int)) (hp : SqL K H p []) (k : Q (.bl ns.isEmpty) H) : rEqD K (.ref a) (.ref p) H Q :=
  r_eqE_lst (dp_ints h) (sh_ints.mono (by decide)) hp (by rw [List.isEmpty_map]; exact k)
/-! the rules' lines as data -/
theorem RulAt.dp {ra la : Addr} {R : Rul} {ps : List Addr} (h : RulAt H ra R la ps) : ∃ ds, Dp K H (.ref la) (.tuple ds) ∧ Sh 60 (.tuple ds) ∧ ds.length = R.lines.length := by
  refine ⟨(List.range ps.length).map fun i => .tuple [.int (R.q i), .int (R.s i)], .tup (SqT.of h.lines) ?_, (sh_tup (n := 1) (sh_map fun i => sh_tup (n := 0) (sh_cons sh_int (sh_cons sh_int sh_nil)))).mono (by decide), by rw [List.length_map, List.length_range, h.len]⟩
  have e : ps.map V.ref = (List.range ps.length).map fun i => V.ref (ps.getD i 0) := by
    apply List.ext_getElem
    · simp
    · intro i h1 h2
      have h1' : i < ps.length := by simpa using h1
      simp [List.getD, h1']
  rw [e]
  refine dpAll_map fun i hi => ?_
  have hi' : i < ps.length := List.mem_range.mp hi
  have e2 : ps[i]? = some (ps.getD i 0) := by simp [List.getD, hi']
  exact .tup (SqT.of (h.pair i _ e2)) (.cons (.int _) (.cons (.int _) .nil))
end
end Qn

/-! Q4: lines in order: each ready task in its line's row once; but for those of ts, which stand in none. -/
namespace Qn
open PySem L2
structure Wf (n : Nat) (ts : List Int) (S : LSt) : Prop where
  rl : S.rows.length = n
  key : ∀ t c, look S.cards t = some c → 0 ≤ t ∧ t ≤ 19 ∧ c.line < n ∧ c.sp.length = n
  nd : (S.cards.map Prod.fst).Nodup
  mem : ∀ l t, t ∈ S.row l ↔ t ∉ ts ∧ ∃ c, look S.cards t = some c ∧ c.rdy = true ∧ c.line = l
  rnd : ∀ l, (S.row l).Nodup
theorem nodup_len : ∀ {xs ys : List Int}, xs.Nodup → (∀ x ∈ xs, x ∈ ys) → xs.length ≤ ys.length
  | [], _, _, _ => Nat.zero_le _
  | x :: r, ys, h, k => by
    have hx := k x List.mem_cons_self
    have h' := List.nodup_cons.mp h
    have := nodup_len (xs := r) (ys := ys.erase x) h'.2 fun y hy => by
      have ne : y ≠ x := fun z => h'.1 (z ▸ hy)
      exact (List.mem_erase_of_ne ne).mpr (k y (List.mem_cons_of_mem _ hy))
    rw [List.length_erase_of_mem hx] at this
    have := List.length_pos_of_mem hx
    show r.length + 1 ≤ _
    omega
def all20 : List Int := (List.range 20).map Int.ofNat
theorem mem_all20 {t : Int} (h : 0 ≤ t ∧ t ≤ 19) : t ∈ all20 := List.mem_map.mpr ⟨t.toNat, List.mem_range.mpr (by omega), by show ((t.toNat : Nat) : Int) = t; omega⟩
theorem few {xs : List Int} (h : xs.Nodup) (k : ∀ x ∈ xs, 0 ≤ x ∧ x ≤ 19) : xs.length ≤ 20 := nodup_len (ys := all20) h fun x hx => mem_all20 (k x hx)
theorem look_cons {p : Int × Card} {r : List (Int × Card)} {t : Int} : look (p :: r) t = if p.1 = t then some p.2 else look r t := rfl
theorem look_key {cs : List (Int × Card)} {t : Int} : (∃ c, look cs t = some c) ↔ t ∈ cs.map Prod.fst := by
  induction cs with
  | nil => simp [look]
  | cons p r ih =>
    rw [List.map_cons, List.mem_cons, ← ih, look_cons]
    by_cases e : p.1 = t
    · rw [if_pos e]
      exact ⟨fun _ => .inl e.symm, fun _ => ⟨_, rfl⟩⟩
    · rw [if_neg e]
      exact ⟨.inr, fun h => h.resolve_left fun z => e z.symm⟩
theorem keys_up {cs : List (Int × Card)} {t : Int} {f : Card → Card} : (cs.map fun p => if p.1 = t then (p.1, f p.2) else p).map Prod.fst = cs.map Prod.fst := by
  rw [List.map_map]
  apply List.map_congr_left
  intro p _
  by_cases e : p.1 = t <;> simp [e]
namespace LSt
variable {S : LSt} {t u : Int} {f g : Card → Card} {l m : Nat} {h : List Int → List Int}
theorem upC_upC : (S.upC t f).upC t g = S.upC t fun c => g (f c) := by
  unfold upC
  simp only [List.map_map]
  congr 1
  apply List.map_congr_left
  intro p _
  by_cases e : p.1 = t <;> simp [e]
theorem upC_id {c : Card} (hc : look S.cards t = some c) (nd : (S.cards.map Prod.fst).Nodup) (hf : f c = c) : S.upC t f = S := by
  have aux : ∀ cs : List (Int × Card), (cs.map Prod.fst).Nodup → (∀ c, look cs t = some c → f c = c) → (cs.map fun p => if p.1 = t then (p.1, f p.2) else p) = cs := by
    intro cs
    induction cs with
    | nil => intro _ _; rfl
    | cons p r ih =>
      intro nd h
      rw [List.map_cons] at nd
      have nd' := List.nodup_cons.mp nd
      rw [List.map_cons]
      by_cases e : p.1 = t
      · rw [if_pos e, h p.2 (by unfold look; rw [if_pos e])]
        congr 1
        rw [ih nd'.2 fun c hc => absurd (look_key.mp ⟨c, hc⟩) (e ▸ nd'.1)]
      · rw [if_neg e, ih nd'.2 fun c hc => h c (by unfold look; rw [if_neg e]; exact hc)]
  unfold upC
  rw [aux S.cards nd fun c' h' => by rw [hc] at h'; rw [← Option.some.inj h']; exact hf]
/-- what is done to a card is told by what it does to the card that is there -/
theorem upC_eq {c : Card} (hc : look S.cards t = some c) (nd : (S.cards.map Prod.fst).Nodup) (hf : f c = g c) : S.upC t f = S.upC t g := by
  have aux : ∀ cs : List (Int × Card), (cs.map Prod.fst).Nodup → (∀ c, look cs t = some c → f c = g c) → (cs.map fun p => if p.1 = t then (p.1, f p.2) else p) = cs.map fun p => if p.1 = t then (p.1, g p.2) else p := by
    intro cs
    induction cs with
    | nil => intro _ _; rfl
    | cons p r ih =>
      intro nd h
      rw [List.map_cons] at nd
      have nd' := List.nodup_cons.mp nd
      rw [List.map_cons, List.map_cons]
      by_cases e : p.1 = t
      · rw [if_pos e, if_pos e, h p.2 (by unfold look; rw [if_pos e])]
        congr 1
        exact ih nd'.2 fun c hc => absurd (look_key.mp ⟨c, hc⟩) (e ▸ nd'.1)
      · rw [if_neg e, if_neg e]
        congr 1
        exact ih nd'.2 fun c hc => h c (by unfold look; rw [if_neg e]; exact hc)
  unfold upC
  rw [aux S.cards nd fun c' h' => by rw [hc] at h'; rw [← Option.some.inj h']; exact hf]
theorem row_upR : (S.upR l h).row m = if l = m ∧ l < S.rows.length then h (S.row m) else S.row m := by
  unfold row upR
  simp only [List.getD_eq_getElem?_getD, List.getElem?_modify]
  by_cases e : l = m
  · subst e
    by_cases q : l < S.rows.length
    · rw [if_pos ⟨rfl, q⟩, List.getElem?_eq_getElem q]; simp
    · rw [if_neg fun z => q z.2, List.getElem?_eq_none (by omega)]; rfl
  · rw [if_neg fun z => e z.1]
    cases S.rows[m]? <;> simp [e]
theorem row_some {xs : List Int} (e : S.rows[l]? = some xs) : S.row l = xs := by unfold row; rw [List.getD_eq_getElem?_getD, e]; rfl
theorem row_at (q : l < S.rows.length) : S.rows[l]? = some (S.row l) := by unfold row; rw [List.getD_eq_getElem?_getD, List.getElem?_eq_getElem q]; rfl
theorem rows_upR : (S.upR l h).rows.length = S.rows.length := List.length_modify ..
theorem card_of {c : Card} (e : look S.cards t = some c) : S.card t = c := by unfold card; rw [e]; rfl
end LSt
section
variable {n : Nat} {ts : List Int} {S : LSt} {t : Int} {c : Card} {f : Card → Card} {l : Nat}
theorem Wf.short (w : Wf n ts S) (l : Nat) : (S.row l).length ≤ 20 := few (w.rnd l) fun x hx => by
  obtain ⟨_, c, hc, _⟩ := (w.mem l x).mp hx
  exact ⟨(w.key x c hc).1, (w.key x c hc).2.1⟩
theorem Wf.cards20 (w : Wf n ts S) : S.cards.length ≤ 20 := by
  have := few w.nd fun x hx => by
    obtain ⟨c, hc⟩ := look_key.mpr hx
    exact ⟨(w.key x c hc).1, (w.key x c hc).2.1⟩
  rwa [List.length_map] at this
theorem Wf.upC (w : Wf n ts S) (h : ∀ c, (f c).line = c.line ∧ (f c).rdy = c.rdy ∧ (f c).sp.length = c.sp.length) : Wf n ts (S.upC t f) := by
  have lk : ∀ u c, look (S.upC t f).cards u = some c → ∃ c', look S.cards u = some c' ∧ c.line = c'.line ∧ c.rdy = c'.rdy ∧ c.sp.length = c'.sp.length := fun u c e => by
    rw [look_upC] at e
    by_cases q : u = t
    · rw [if_pos q] at e
      cases z : look S.cards u with
      | none => rw [z] at e; cases e
      | some c' =>
        rw [z] at e
        obtain ⟨a, b, d⟩ := h c'
        have e' := Option.some.inj e
        exact ⟨c', rfl, by rw [← e', a], by rw [← e', b], by rw [← e', d]⟩
    · rw [if_neg q] at e
      exact ⟨c, e, rfl, rfl, rfl⟩
  refine ⟨w.rl, fun u c e => ?_, by show (List.map _ _).Nodup; rw [show (S.upC t f).cards.map Prod.fst = S.cards.map Prod.fst from keys_up]; exact w.nd, fun l u => ?_, w.rnd⟩
  · obtain ⟨c', e', a, b, d⟩ := lk u c e
    rw [a, d]
    exact w.key u c' e'
  · refine (w.mem l u).trans ⟨fun ⟨a, c, e, r, q⟩ => ⟨a, ?_⟩, fun ⟨a, c, e, r, q⟩ => ⟨a, ?_⟩⟩
    · by_cases z : u = t
      · obtain ⟨a1, b1, d1⟩ := h c
        exact ⟨f c, by rw [look_upC, if_pos z, e]; rfl, by rw [b1, r], by rw [a1, q]⟩
      · exact ⟨c, by rw [look_upC, if_neg z, e], r, q⟩
    · obtain ⟨c', e', a1, b1, d1⟩ := lk u c e
      exact ⟨c', e', by rw [← b1, r], by rw [← a1, q]⟩
/-- a task in no row may be changed at will -/
theorem Wf.upOff (w : Wf n (t :: ts) S) (h : ∀ c, look S.cards t = some c → (f c).line < n ∧ (f c).sp.length = n) : Wf n (t :: ts) (S.upC t f) := by
  refine ⟨w.rl, fun u c e => ?_, by show (List.map _ _).Nodup; rw [show (S.upC t f).cards.map Prod.fst = S.cards.map Prod.fst from keys_up]; exact w.nd, fun l u => ?_, w.rnd⟩
  · rw [look_upC] at e
    by_cases q : u = t
    · rw [if_pos q] at e
      cases z : look S.cards u with
      | none => rw [z] at e; cases e
      | some c' =>
        rw [z] at e
        rw [← Option.some.inj e]
        have k := w.key u c' z
        exact ⟨k.1, k.2.1, h c' (q ▸ z)⟩
    · rw [if_neg q] at e
      exact w.key u c e
  · refine (w.mem l u).trans ?_
    by_cases z : u = t
    · subst z
      simp
    · rw [look_upC, if_neg z]
theorem Wf.lay {R : Rul} (w : Wf n (t :: ts) S) (e : look S.cards t = some c) (r : c.rdy = true) (hl : l < n) (nt : t ∉ ts) : Wf n ts (S.lay R t l) := by
  have w' := w.upOff (f := fun c => { c with line := l, q := R.q l }) fun c e => ⟨hl, (w.key t c e).2.2.2⟩
  have no : ∀ l, t ∉ S.row l := fun l h => ((w.mem l t).mp h).1 List.mem_cons_self
  have hl' : l < S.rows.length := by rw [w.rl]; exact hl
  refine ⟨LSt.rows_upR.trans w.rl, w'.key, w'.nd, fun m u => ?_, fun m => ?_⟩
  · show u ∈ ((S.upC t _).upR l _).row m ↔ _
    rw [LSt.row_upR]
    show u ∈ (if l = m ∧ l < S.rows.length then S.row m ++ [t] else S.row m) ↔ _
    have lk : look (S.lay R t l).cards u = if u = t then (look S.cards u).map (fun c => { c with line := l, q := R.q l }) else look S.cards u := look_upC (f := fun c => { c with line := l, q := R.q l })
    rw [lk]
    by_cases z : u = t
    · subst z
      rw [if_pos rfl, e]
      by_cases q : l = m
      · rw [if_pos ⟨q, hl'⟩]
        simp [nt, r, q]
      · rw [if_neg fun z => q z.1]
        simp [no m, q]
    · rw [if_neg z]
      have : u ∈ (if l = m ∧ l < S.rows.length then S.row m ++ [t] else S.row m) ↔ u ∈ S.row m := by
        by_cases q : l = m ∧ l < S.rows.length
        · rw [if_pos q]; simp [z]
        · rw [if_neg q]
      rw [this, w.mem m u]
      simp [z]
  · show (((S.upC t _).upR l _).row m).Nodup
    rw [LSt.row_upR]
    show (if l = m ∧ l < S.rows.length then S.row m ++ [t] else S.row m).Nodup
    by_cases q : l = m ∧ l < S.rows.length
    · rw [if_pos q]
      refine List.nodup_append.mpr ⟨w.rnd m, by simp, fun a ha b hb => ?_⟩
      rw [List.mem_singleton] at hb
      exact fun z => no m (by rw [← hb, ← z]; exact ha)
    · rw [if_neg q]; exact w.rnd m
theorem Wf.off (w : Wf n ts S) (e : look S.cards t = some c) : Wf n (t :: ts) (S.upR c.line (·.erase t)) := by
  refine ⟨LSt.rows_upR.trans w.rl, w.key, w.nd, fun m u => ?_, fun m => ?_⟩
  · rw [LSt.row_upR]
    have hl : c.line < S.rows.length := by rw [w.rl]; exact (w.key t c e).2.2.1
    show _ ↔ u ∉ t :: ts ∧ ∃ c, look S.cards u = some c ∧ _
    by_cases q : c.line = m
    · rw [if_pos ⟨q, hl⟩, (w.rnd m).mem_erase_iff, w.mem m u]
      simp [and_assoc]
    · rw [if_neg fun z => q z.1, w.mem m u]
      constructor
      · rintro ⟨a, c', e', r, z⟩
        refine ⟨?_, c', e', r, z⟩
        intro h
        rcases List.mem_cons.mp h with h | h
        · subst h; rw [e] at e'; exact q (by rw [Option.some.inj e']; exact z)
        · exact a h
      · rintro ⟨a, x⟩
        exact ⟨fun h => a (List.mem_cons_of_mem _ h), x⟩
  · rw [LSt.row_upR]
    by_cases q : c.line = m ∧ c.line < S.rows.length
    · rw [if_pos q]; exact (w.rnd m).erase t
    · rw [if_neg q]; exact w.rnd m
/-- who stands in no row and isn't ready is in order -/
theorem Wf.idle (w : Wf n (t :: ts) S) (nt : t ∉ ts) (e : ∀ c, look S.cards t = some c → c.rdy = false) : Wf n ts S := by
  refine ⟨w.rl, w.key, w.nd, fun m u => ?_, w.rnd⟩
  rw [w.mem m u]
  constructor
  · rintro ⟨a, x⟩
    exact ⟨fun h => a (List.mem_cons_of_mem _ h), x⟩
  · rintro ⟨a, c, e', r, z⟩
    refine ⟨fun h => ?_, c, e', r, z⟩
    rcases List.mem_cons.mp h with h | h
    · subst h; rw [e c e'] at r; cases r
    · exact a h
theorem Wf.busy (w : Wf n ts S) (e : ∀ c, look S.cards t = some c → c.rdy = false) : Wf n (t :: ts) S := by
  refine ⟨w.rl, w.key, w.nd, fun m u => ?_, w.rnd⟩
  rw [w.mem m u]
  constructor
  · rintro ⟨a, c, e', r, z⟩
    refine ⟨fun h => ?_, c, e', r, z⟩
    rcases List.mem_cons.mp h with h | h
    · subst h; rw [e c e'] at r; cases r
    · exact a h
  · rintro ⟨a, x⟩
    exact ⟨fun h => a (List.mem_cons_of_mem _ h), x⟩
theorem Wf.wait (w : Wf n [] S) (e : look S.cards t = some c) : Wf n [] (S.wait t) := by
  have w1 := (w.off e).upOff (f := fun c => { c with rdy := false }) fun c e => ⟨(w.key t c e).2.2.1, (w.key t c e).2.2.2⟩
  have w2 := w1.idle (by simp) fun c h => by
    rw [look_upC, if_pos rfl] at h
    have e' : look (S.upR c.line (·.erase t)).cards t = look S.cards t := rfl
    cases z : look S.cards t with
    | none => rw [e] at z; cases z
    | some d =>
      have h' : (look S.cards t).map (fun c => ({ c with rdy := false } : Card)) = some c := h
      rw [z] at h'
      rw [← Option.some.inj h']
  unfold LSt.wait
  rw [LSt.card_of e]
  exact w2
theorem Wf.wake {R : Rul} (w : Wf n [] S) (e : look S.cards t = some c) (r : c.rdy = false) : Wf n [] (S.wake R t) := by
  have w1 := (w.busy (t := t) fun d h => by rw [e] at h; rw [← Option.some.inj h]; exact r).upOff (f := fun c => { c with rdy := true, sh := if R.kept then c.sh else R.s c.line }) fun c e => ⟨(w.key t c e).2.2.1, (w.key t c e).2.2.2⟩
  unfold LSt.wake
  rw [LSt.card_of e]
  exact w1.lay (c := { c with rdy := true, sh := if R.kept then c.sh else R.s c.line }) (by rw [look_upC, if_pos rfl, e]; rfl) rfl (w.key t c e).2.2.1 (by simp)
theorem Wf.dropOff (w : Wf n (t :: ts) S) (nt : t ∉ ts) : Wf n ts (S.drop t) := by
  have lk : ∀ u c, look (S.drop t).cards u = some c → look S.cards u = some c ∧ u ≠ t := fun u c e => by
    have e' : (if u = t then none else look S.cards u) = some c := by rw [← look_drop]; exact e
    by_cases q : u = t
    · rw [if_pos q] at e'; cases e'
    · rw [if_neg q] at e'; exact ⟨e', q⟩
  have w1 : Wf n (t :: ts) (S.drop t) := by
    refine ⟨w.rl, fun u c e => w.key u c (lk u c e).1, ?_, fun m u => ?_, w.rnd⟩
    · show ((S.cards.filter _).map Prod.fst).Nodup
      exact List.Pairwise.sublist (List.Sublist.map _ List.filter_sublist) w.nd
    · refine (w.mem m u).trans ⟨fun ⟨a, c, e, r, z⟩ => ⟨a, c, ?_, r, z⟩, fun ⟨a, c, e, r, z⟩ => ⟨a, c, (lk u c e).1, r, z⟩⟩
      show look (S.cards.filter fun p => decide (p.1 ≠ t)) u = _
      rw [look_drop, if_neg fun h => a (by rw [h]; exact List.mem_cons_self), e]
  exact w1.idle nt fun c e => absurd rfl (lk t c e).2
theorem Wf.go (w : Wf n [] S) (e : look S.cards t = some c) : Wf n [] (S.go t) := by
  unfold LSt.go
  rw [LSt.card_of e]
  by_cases r : c.rdy = true
  · rw [if_pos r]
    have := (w.off e).dropOff (by simp)
    exact this
  · rw [if_neg r]
    exact (w.busy (t := t) fun d h => by rw [e] at h; rw [← Option.some.inj h]; simpa using r).dropOff (by simp)
theorem Wf.add (w : Wf n ts S) (e : look S.cards t = none) (ht : 0 ≤ t ∧ t ≤ 19) (hl : c.line < n) (hs : c.sp.length = n) : Wf n (t :: ts) { S with cards := S.cards ++ [(t, c)] } := by
  refine ⟨w.rl, fun u d h => ?_, ?_, fun m u => ?_, w.rnd⟩
  · have h' : look (S.cards ++ [(t, c)]) u = some d := h
    rw [look_snoc e] at h'
    by_cases q : u = t
    · rw [if_pos q] at h'
      rw [← Option.some.inj h', q]
      exact ⟨ht.1, ht.2, hl, hs⟩
    · rw [if_neg q] at h'
      exact w.key u d h'
  · show ((S.cards ++ [(t, c)]).map Prod.fst).Nodup
    rw [List.map_append]
    refine List.nodup_append.mpr ⟨w.nd, by simp, fun a ha b hb => ?_⟩
    have hb' : b = t := by simpa using hb
    intro z
    obtain ⟨d, hd⟩ := look_key.mpr ha
    rw [z, hb', e] at hd; cases hd
  · show u ∈ S.row m ↔ _
    rw [w.mem m u]
    show _ ↔ u ∉ t :: ts ∧ ∃ d, look (S.cards ++ [(t, c)]) u = some d ∧ _
    rw [look_snoc e]
    by_cases q : u = t
    · subst q
      rw [e]
      simp
    · rw [if_neg q]
      simp [q]
theorem Wf.come {R : Rul} (w : Wf n [] S) (e : look S.cards t = none) (ht : 0 ≤ t ∧ t ≤ 19) (hn : 0 < n) : Wf n [] (S.come R t) := by
  have w1 := w.add (c := LSt.fresh R S.rows.length) e ht hn (by unfold LSt.fresh; simp [w.rl])
  exact w1.lay (c := LSt.fresh R S.rows.length) (by show look (S.cards ++ [(t, _)]) t = _; rw [look_snoc e, if_pos rfl]) rfl hn (by simp)
end
end Qn

/-! Q5: lines in a heap, since a heap; the stores by name; a list built in a loop. -/
namespace Qn
open PySem L2
theorem Same.late {H H' : Hp} {D : Addr} {o : HO} (s : Same H H') (n : H D = none) : Same H (L2.upd H' D o) := fun b v e => upd_oth (s b v e) fun z => by rw [z, n] at e; cases e
theorem Step.mono2 {W W' V' : Addr → Prop} {H H' : Hp} (a : Step W H W' H') (h : ∀ b, V' b → W' b) : Step W H V' H' := ⟨a.1, fun b z => a.2 b (h b z)⟩
theorem Step.apart {W W' U : Addr → Prop} {H H' : Hp} (st : Step W H W' H') (d : ∀ b, W b → ¬ U b) (own : ∀ b, U b → H b ≠ none) : ∀ b, W' b → ¬ U b := fun b h u => by
  rcases st.2 b h with z | z
  · exact d b z u
  · exact own b u z
structure LS (kd : Kd) (U0 : Addr → Prop) (H0 : Hp) (g : Geo) (S : LSt) (H : Hp) : Prop where
  lr : LR kd g S H
  st : Step U0 H0 (Foot g S) H
section
variable {kd : Kd} {U0 U1 : Addr → Prop} {H0 H H' : Hp} {g g' : Geo} {S S' : LSt} {t : Int} {c : Card} {l : Nat}
theorem LR.start (h : LR kd g S H) : LS kd (Foot g S) H g S H := ⟨h, .refl⟩
theorem LS.trans (h : LS kd U0 H0 g S H) (k : LS kd (Foot g S) H g' S' H') : LS kd U0 H0 g' S' H' := ⟨k.lr, h.st.trans k.st⟩
theorem LS.put {p : Addr} {o : HO} (h : LS kd U0 H0 g S H) (w : Foot g S p) (k : LR kd g S' (upd H p o)) (sub : ∀ i, live S' i → live S i) : LS kd U0 H0 g S' (upd H p o) := by
  obtain ⟨u, hu, nt⟩ := h.lr.owned w
  refine ⟨k, h.st.trans ⟨Frame.put w hu nt, fun b hb => .inl ?_⟩⟩
  obtain ⟨i, hi, rfl⟩ := hb
  exact ⟨i, sub i hi, rfl⟩
theorem LS.new {p : Addr} {o : HO} (h : LS kd U0 H0 g S H) (n : H p = none) : LS kd U0 H0 g S (upd H p o) := ⟨h.lr.same (Same.upd n), h.st.trans (.new n)⟩
theorem LS.same (h : LS kd U0 H0 g S H) (k : Same H H') : LS kd U0 H0 g S H' := ⟨h.lr.same k, h.st.trans (.of_same k)⟩
theorem LS.fresh {p : Addr} (h : LS kd U0 H0 g S H) (n : H p = none) : ¬ Foot g S p := fun w => by
  obtain ⟨u, hu, _⟩ := h.lr.owned w
  rw [n] at hu; cases hu
theorem live_upC {f : Card → Card} {i : LC} (h : live (S.upC t f) i) : live S i := by
  cases i with
  | self => trivial
  | cards => trivial
  | rws => trivial
  | row i => exact h
  | card u =>
    have h' : look (S.upC t f).cards u ≠ none := h
    rw [look_upC] at h'
    show look S.cards u ≠ none
    intro z; rw [z] at h'; simp at h'
  | spt u =>
    have h' : look (S.upC t f).cards u ≠ none := h
    rw [look_upC] at h'
    show look S.cards u ≠ none
    intro z; rw [z] at h'; simp at h'
theorem live_upR {f : List Int → List Int} {i : LC} (h : live (S.upR l f) i) : live S i := by
  cases i with
  | row i => have h' : i < (S.upR l f).rows.length := h; rw [LSt.rows_upR] at h'; exact h'
  | _ => exact h
theorem LS.setC {f : Card → Card} (h : LS kd U0 H0 g S H) (e : look S.cards t = some c) (hf : (f c).sp = c.sp) :
    LS kd U0 H0 g (S.upC t f) (upd H (g.adr (.card t)) (kd.card g t (f c) (g.adr (.spt t)))) :=
  h.put ⟨.card t, by show look S.cards t ≠ none; rw [e]; simp, rfl⟩ (h.lr.setC e hf) fun _ => live_upC
theorem LS.setSp {f : List Int → List Int} (h : LS kd U0 H0 g S H) (e : look S.cards t = some c) :
    LS kd U0 H0 g (S.upC t fun c => { c with sp := f c.sp }) (upd H (g.adr (.spt t)) (.lst ((f c.sp).map V.int))) :=
  h.put ⟨.spt t, by show look S.cards t ≠ none; rw [e]; simp, rfl⟩ (h.lr.setSp e) fun _ => live_upC
theorem LS.setR {xs : List Int} {f : List Int → List Int} (h : LS kd U0 H0 g S H) (e : S.rows[l]? = some xs) :
    LS kd U0 H0 g (S.upR l f) (upd H (g.adr (.row l)) (.lst ((f xs).map V.int))) :=
  h.put ⟨.row l, (List.getElem?_eq_some_iff.mp e).1, rfl⟩ (h.lr.setR e) fun _ => live_upR
theorem LS.setT {z : Int} (h : LS kd U0 H0 g S H) : LS kd U0 H0 g { S with time := z } (upd H (g.adr .self) (kd.self g z)) :=
  h.put ⟨.self, trivial, rfl⟩ h.lr.setT fun i hi => by cases i <;> exact hi
theorem live_drop {i : LC} (h : live (S.drop t) i) : live S i := by
  have aux : ∀ u, look (S.drop t).cards u ≠ none → look S.cards u ≠ none := fun u h' z => by
    apply h'
    show look (S.cards.filter fun p => decide (p.1 ≠ t)) u = none
    rw [look_drop, z]; simp
  cases i with
  | card u => exact aux u h
  | spt u => exact aux u h
  | self => trivial
  | cards => trivial
  | rws => trivial
  | row i => exact h
theorem LS.drop (h : LS kd U0 H0 g S H) : LS kd U0 H0 g (S.drop t) (upd H (g.adr .cards) (.dK (refs (fun t => g.adr (.card t)) (S.drop t).cards))) :=
  h.put ⟨.cards, trivial, rfl⟩ h.lr.drop fun _ => live_drop
theorem card_get (e : look S.cards t = some c) : valV (refs (fun t => g.adr (.card t)) S.cards) (Sum.inl t) = some (V.ref (g.adr (.card t))) := by rw [valV_refs, e]; rfl
theorem card_no (e : look S.cards t = none) : valV (refs (fun t => g.adr (.card t)) S.cards) (Sum.inl t) = none := by rw [valV_refs, e]; rfl
theorem row_get (h : l < S.rows.length) : atI ((List.range S.rows.length).map fun i => V.ref (g.adr (.row i))) (l : Nat) = some (V.ref (g.adr (.row l))) := by
  apply atI_nat
  rw [List.getElem?_map, List.getElem?_range h]; rfl
end
/-! ### the stores of the program's own lines -/
section
variable {K : PySem.W.Frag} {CL CC : Addr} {U0 : Addr → Prop} {H0 H : Hp} {g : Geo} {S : LSt} {t : Int} {c : Card} {l : Nat} {R : Hp → Prop} {Q : VK}
theorem LR.sf (h : LR (LKd CL CC) g S H) : H (g.adr .self) = some (.ins CL g.dx (LF g S.time)) := h.hself
theorem LR.cd (h : LR (LKd CL CC) g S H) (e : look S.cards t = some c) : H (g.adr (.card t)) = some (.ins CC (g.cdx t) (CF c (g.adr (.spt t)))) := h.hcard e
theorem k_line (L : LS (LKd CL CC) U0 H0 g S H) (e : look S.cards t = some c) (cl : Cls K CC) (na : NoAttr K CC "line") (k : ∀ H', LS (LKd CL CC) U0 H0 g (S.upC t fun c => { c with line := l }) H' → R H') :
    kSetF K "line" (.int (l : Nat)) (.ref (g.adr (.card t))) H R := by
  refine r_kSetF (L.lr.hcard e) cl na len_CF ?_
  rw [put_CF_line]
  exact k _ (L.setC (f := fun c => { c with line := l }) e rfl)
theorem k_quantum {z : Int} (L : LS (LKd CL CC) U0 H0 g S H) (e : look S.cards t = some c) (cl : Cls K CC) (na : NoAttr K CC "quantum") (k : ∀ H', LS (LKd CL CC) U0 H0 g (S.upC t fun c => { c with q := z }) H' → R H') :
    kSetF K "quantum" (.int z) (.ref (g.adr (.card t))) H R := by
  refine r_kSetF (L.lr.hcard e) cl na len_CF ?_
  rw [put_CF_quantum]
  exact k _ (L.setC (f := fun c => { c with q := z }) e rfl)
theorem k_share {z : Int} (L : LS (LKd CL CC) U0 H0 g S H) (e : look S.cards t = some c) (cl : Cls K CC) (na : NoAttr K CC "share") (k : ∀ H', LS (LKd CL CC) U0 H0 g (S.upC t fun c => { c with sh := z }) H' → R H') :
    kSetF K "share" (.int z) (.ref (g.adr (.card t))) H R := by
  refine r_kSetF (L.lr.hcard e) cl na len_CF ?_
  rw [put_CF_share]
  exact k _ (L.setC (f := fun c => { c with sh := z }) e rfl)
theorem k_ready {b : Bool} (L : LS (LKd CL CC) U0 H0 g S H) (e : look S.cards t = some c) (cl : Cls K CC) (na : NoAttr K CC "is_ready") (k : ∀ H', LS (LKd CL CC) U0 H0 g (S.upC t fun c => { c with rdy := b }) H' → R H') :
    kSetF K "is_ready" (.bl b) (.ref (g.adr (.card t))) H R := by
  refine r_kSetF (L.lr.hcard e) cl na len_CF ?_
  rw [put_CF_is_ready]
  exact k _ (L.setC (f := fun c => { c with rdy := b }) e rfl)
theorem ka_quantum {z : Int} (L : LS (LKd CL CC) U0 H0 g S H) (e : look S.cards t = some c) (k : ∀ H', LS (LKd CL CC) U0 H0 g (S.upC t fun c => { c with q := z }) H' → R H') :
    kSetA "quantum" (g.adr (.card t)) CC (.int z) R H := by
  refine r_kSetA (L.lr.hcard e) len_CF ?_
  rw [put_CF_quantum]
  exact k _ (L.setC (f := fun c => { c with q := z }) e rfl)
theorem ka_share {z : Int} (L : LS (LKd CL CC) U0 H0 g S H) (e : look S.cards t = some c) (k : ∀ H', LS (LKd CL CC) U0 H0 g (S.upC t fun c => { c with sh := z }) H' → R H') :
    kSetA "share" (g.adr (.card t)) CC (.int z) R H := by
  refine r_kSetA (L.lr.hcard e) len_CF ?_
  rw [put_CF_share]
  exact k _ (L.setC (f := fun c => { c with sh := z }) e rfl)
theorem ka_time {z : Int} (L : LS (LKd CL CC) U0 H0 g S H) (k : ∀ H', LS (LKd CL CC) U0 H0 g { S with time := z } H' → R H') :
    kSetA "time" (g.adr .self) CL (.int z) R H := by
  refine r_kSetA L.lr.hself len_LF ?_
  rw [put_LF_time]
  exact k _ L.setT
end
/-! ### of any lines: rows, what was spent -/
section
variable {kd : Kd} {U0 : Addr → Prop} {H0 H : Hp} {g : Geo} {S : LSt} {t : Int} {c : Card} {l : Nat} {R : Hp → Prop} {Q : VK} {K : PySem.W.Frag}
theorem k_append (L : LS kd U0 H0 g S H) (hl : l < S.rows.length) (hz : (S.row l).length < 100000) (k : ∀ H', LS kd U0 H0 g (S.upR l (· ++ [t])) H' → Q .non H') : rAppend (.ref (g.adr (.row l))) [.int t] H Q := by
  refine r_append (L.lr.hrow (LSt.row_at hl)) (by rw [List.length_map]; exact hz) ?_
  have e : (S.row l).map V.int ++ [.int t] = ((S.row l) ++ [t]).map V.int := by rw [List.map_append]; rfl
  rw [e]
  exact k _ (L.setR (f := (· ++ [t])) (LSt.row_at hl))
theorem k_clear (L : LS kd U0 H0 g S H) (hl : l < S.rows.length) (k : ∀ H', LS kd U0 H0 g (S.upR l fun _ => []) H' → Q .non H') : rClear (.ref (g.adr (.row l))) [] H Q := by
  refine r_clear (L.lr.hrow (LSt.row_at hl)) ?_
  exact k _ (L.setR (f := fun _ => []) (LSt.row_at hl))
theorem first_idx {xs : List Int} {t : Int} (h : t ∈ xs) : ∃ j, xs[j]? = some t ∧ (∀ m : Nat, m < j → xs[m]? ≠ some t) ∧ xs.eraseIdx j = xs.erase t := by
  have hj := List.idxOf_lt_length_iff.mpr h
  refine ⟨xs.idxOf t, ?_, fun m hm e => ?_, (List.erase_eq_eraseIdx_of_idxOf rfl).symm⟩
  · rw [List.getElem?_eq_getElem hj, List.getElem_idxOf hj]
  · have hm' : m < xs.length := (List.getElem?_eq_some_iff.mp e).1
    have e2 : xs[m] = t := (List.getElem?_eq_some_iff.mp e).2
    have := List.not_of_lt_findIdx (p := (· == t)) hm
    simp [e2] at this
theorem k_remove (L : LS kd U0 H0 g S H) (hl : l < S.rows.length) (ht : t ∈ S.row l) (k : ∀ H', LS kd U0 H0 g (S.upR l (·.erase t)) H' → Q .non H') : rRemI (.ref (g.adr (.row l))) [.int t] H Q := by
  obtain ⟨j, h1, h2, h3⟩ := first_idx ht
  refine ⟨_, S.row l, t, j, rfl, rfl, L.lr.hrow (LSt.row_at hl), h1, h2, ?_⟩
  rw [h3]
  exact k _ (L.setR (f := (·.erase t)) (LSt.row_at hl))
theorem k_spent {i : Nat} {z : Int} (L : LS kd U0 H0 g S H) (e : look S.cards t = some c) (hi : i < c.sp.length) (k : ∀ H', LS kd U0 H0 g (S.upC t fun c => { c with sp := c.sp.set i z }) H' → R H') : rSetL (.ref (g.adr (.spt t))) (.int (i : Nat)) (.int z) H R := by
  refine r_setL (L.lr.hspt e) (n := i) (by rw [List.length_map]; unfold ixN; rw [if_pos (by omega), if_pos (by omega)]; congr 1) ?_
  rw [← List.map_set]
  exact k _ (L.setSp (f := fun sp => sp.set i z) e)
instance rd_gIxL {x y : V} : Rd (gIxL K x y H Q) (rIxL K x y H Q) := ⟨id⟩
end
/-! ### the list of a comprehension -/
def kLc (J : It) (g : TG) (tt : TT) (te : TE) (vs : List Nat) (σ : St) (Q : VK) (H1 : Hp) : Prop := ∀ D, H1 D = none → ∃ W : Nat → Nat → Hp → Prop, (∃ m, W 0 m (upd H1 D (.lst []))) ∧ ∀ i m H, W i m H →
  (J.stop i H ∧ Q (.ref D) H) ∨ (J.go i H ∧ ∃ Nx : Hp → Prop, (∀ H', Nx H' → ∃ m', m' < m ∧ W (i + 1) m' H') ∧ ∀ x H', J.yld i H x H' → g x (wipe σ vs) H' fun σ2 H2 => wipe σ2 vs = wipe σ vs ∧ tt σ2 H2 fun b H3 =>
    if b = true then te σ2 H3 fun y H4 => ∃ acc, H4 D = some (.lst acc) ∧ acc.length < sizeLine ∧ Nx (upd H4 D (.lst (acc ++ [y]))) else Nx H3)
instance rd_lc {wi : TI} {g : TG} {tt : TT} {te : TE} {vs : List Nat} {σ : St} {H : Hp} {Q : VK} : Rd (tLc wi g tt te vs σ H Q) (wi σ H fun J H1 => kLc J g tt te vs σ Q H1) := ⟨id⟩
/-- the list at D gets y -/
def kApp (D : Addr) (N : Hp → Prop) : VK := fun y H4 => ∃ acc, H4 D = some (.lst acc) ∧ acc.length < sizeLine ∧ N (upd H4 D (.lst (acc ++ [y])))
/-- what a turn leaves -/
def kTurn (D : Addr) (N : List V → Hp → Prop) : Hp → Prop := fun H => ∃ acc, H D = some (.lst acc) ∧ N acc H
theorem r_kApp {D : Addr} {N : List V → Hp → Prop} {y : V} {H : Hp} {acc : List V} (h : H D = some (.lst acc)) (hz : acc.length < 100000) (k : N (acc ++ [y]) (upd H D (.lst (acc ++ [y])))) : kApp D (kTurn D N) y H :=
  ⟨acc, h, Nat.lt_of_lt_of_le hz (by decide), _, upd_same, k⟩
theorem w_lc {J : It} {n : Nat} {G : Hp → Prop} {Y : Nat → Hp → V → Hp → Prop} {g : TG} {tt : TT} {te : TE} {vs : List Nat} {σ σ0 : St} {H1 : Hp} {Q : VK} (w : Walk J n G Y) (hw : wipe σ vs = σ0) (Pv : Addr → Nat → List V → Hp → Prop)
    (h0 : ∀ D, H1 D = none → Pv D 0 [] (upd H1 D (.lst []))) (hG : ∀ D i acc H, H1 D = none → i ≤ n → H D = some (.lst acc) → Pv D i acc H → G H)
    (hs : ∀ D i acc x H H', H1 D = none → i < n → H D = some (.lst acc) → Pv D i acc H → Y i H x H' → g x σ0 H' fun σ2 H2 => wipe σ2 vs = σ0 ∧ tt σ2 H2 fun b H3 =>
      kIf b (te σ2 H3 (kApp D (kTurn D (Pv D (i + 1))))) (kTurn D (Pv D (i + 1)) H3))
    (hd : ∀ D acc H, H1 D = none → H D = some (.lst acc) → Pv D n acc H → Q (.ref D) H) : kLc J g tt te vs σ Q H1 := by
  subst hw
  intro D hD
  refine ⟨fun i m H => m = n - i ∧ i ≤ n ∧ kTurn D (Pv D i) H, ⟨n, by simp, Nat.zero_le _, [], upd_same, h0 D hD⟩, ?_⟩
  rintro i m H ⟨rfl, hi, acc, ha, p⟩
  have q := hG D i acc H hD hi ha p
  by_cases hlt : i < n
  · exact .inr ⟨w.goes i H hlt q, kTurn D (Pv D (i + 1)), fun H' p' => ⟨n - (i + 1), by omega, rfl, hlt, p'⟩, fun x H' y => hs D i acc x H H' hD hlt ha p (w.yields i H x H' hlt q y)⟩
  · have e : i = n := by omega
    subst e
    exact .inl ⟨w.stops H q, hd D acc H hD ha p⟩
end Qn

/-! Q6: a card more; rows anew; lines as a whole. -/
namespace Qn
open PySem L2
def Geo.put (g : Geo) (t : Int) (x s dx : Addr) : Geo := { g with adr := fun i => if i = .card t then x else if i = .spt t then s else g.adr i, cdx := fun u => if u = t then dx else g.cdx u }
section
variable {kd : Kd} {U0 : Addr → Prop} {H0 H H' : Hp} {g : Geo} {S : LSt} {t : Int} {c : Card} {x s dx : Addr}
theorem put_other {i : LC} (h1 : i ≠ .card t) (h2 : i ≠ .spt t) : (g.put t x s dx).adr i = g.adr i := by
  show (if i = .card t then x else if i = .spt t then s else g.adr i) = _
  rw [if_neg h1, if_neg h2]
theorem put_card : (g.put t x s dx).adr (.card t) = x := by show (if LC.card t = .card t then x else _) = _; rw [if_pos rfl]
theorem put_spt : (g.put t x s dx).adr (.spt t) = s := by show (if LC.spt t = .card t then x else if LC.spt t = .spt t then s else _) = _; rw [if_neg (by intro z; cases z), if_pos rfl]
theorem put_cdx : (g.put t x s dx).cdx t = dx := by show (if t = t then dx else _) = _; rw [if_pos rfl]
theorem live_add {i : LC} (e : look S.cards t = none) : live { S with cards := S.cards ++ [(t, c)] } i ↔ live S i ∨ i = .card t ∨ i = .spt t := by
  have aux : ∀ u, look (S.cards ++ [(t, c)]) u ≠ none ↔ look S.cards u ≠ none ∨ u = t := fun u => by
    rw [look_snoc e]
    by_cases q : u = t
    · rw [if_pos q]; simp [q]
    · rw [if_neg q]; simp [q]
  cases i with
  | self => simp [live]
  | cards => simp [live]
  | rws => simp [live]
  | row i => simp [live]
  | card u => exact (aux u).trans (by simp [live])
  | spt u => exact (aux u).trans (by simp [live])
theorem LR.come (h : LR kd g S H) (e : look S.cards t = none) (hx : ¬ Foot g S x) (hs : ¬ Foot g S s) (hne : x ≠ s)
    (old : ∀ i o, lcont kd g S i = some o → i ≠ .cards → H' (g.adr i) = some o) (hc : H' (g.adr .cards) = some (.dK (putK (refs (fun t => g.adr (.card t)) S.cards) (.inl t) (.ref x))))
    (h1 : H' x = some (kd.card (g.put t x s dx) t c s)) (h2 : H' s = some (.lst (c.sp.map V.int))) : LR kd (g.put t x s dx) { S with cards := S.cards ++ [(t, c)] } H' := by
  have no : ∀ i, live S i → i ≠ .card t ∧ i ≠ .spt t := fun i hi => ⟨fun z => by subst z; exact hi e, fun z => by subst z; exact hi e⟩
  constructor
  · intro i o ho
    have lv := (live_add e).mp (cont_live ho)
    by_cases q1 : i = .card t
    · subst q1
      rw [put_card, h1]
      have ho' : (look (S.cards ++ [(t, c)]) t).map (fun c => kd.card (g.put t x s dx) t c ((g.put t x s dx).adr (.spt t))) = some o := ho
      rw [look_snoc e, if_pos rfl, put_spt] at ho'
      exact ho'
    by_cases q2 : i = .spt t
    · subst q2
      rw [put_spt, h2]
      have ho' : (look (S.cards ++ [(t, c)]) t).map (fun c => HO.lst (c.sp.map V.int)) = some o := ho
      rw [look_snoc e, if_pos rfl] at ho'
      exact ho'
    rw [put_other q1 q2]
    by_cases q3 : i = .cards
    · subst q3
      rw [hc, refs_put e (c := c)]
      have ho' : some (HO.dK (refs (fun u => (g.put t x s dx).adr (.card u)) (S.cards ++ [(t, c)]))) = some o := ho
      rw [← ho']
      congr 2
      congr 1
      funext u
      by_cases z : u = t
      · rw [if_pos z, z, put_card]
      · rw [if_neg z, put_other (by intro q; exact z (LC.card.inj q)) (by intro q; cases q)]
    · refine old i o ?_ q3
      rw [← ho]
      cases i with
      | self => exact congrArg some (kd.self_at g (g.put t x s dx) S.time rfl rfl (put_other (by intro q; cases q) (by intro q; cases q)) (put_other (by intro q; cases q) (by intro q; cases q))).symm
      | cards => exact absurd rfl q3
      | rws =>
        show some (HO.lst _) = some (HO.lst _)
        congr 2
      | row j => rfl
      | card u =>
        have ne : u ≠ t := fun z => q1 (by rw [z])
        show (look S.cards u).map _ = (look (S.cards ++ [(t, c)]) u).map _
        rw [look_snoc e, if_neg ne]
        cases look S.cards u with
        | none => rfl
        | some d =>
          show some (kd.card g u d _) = some (kd.card (g.put t x s dx) u d _)
          rw [put_other (by intro q; cases q) (by intro q; exact ne (LC.spt.inj q)), kd.card_at g (g.put t x s dx) u d _ (by show (if u = t then dx else g.cdx u) = _; rw [if_neg ne])]
      | spt u =>
        have ne : u ≠ t := fun z => q2 (by rw [z])
        show (look S.cards u).map _ = (look (S.cards ++ [(t, c)]) u).map _
        rw [look_snoc e, if_neg ne]
  · have at_ : ∀ i, live S i → (g.put t x s dx).adr i = g.adr i := fun i hi => put_other (no i hi).1 (no i hi).2
    have cs : ∀ i, live { S with cards := S.cards ++ [(t, c)] } i → (live S i ∧ (g.put t x s dx).adr i = g.adr i) ∨ (i = .card t ∧ (g.put t x s dx).adr i = x) ∨ (i = .spt t ∧ (g.put t x s dx).adr i = s) := fun i hi => by
      rcases (live_add e).mp hi with z | z | z
      · exact .inl ⟨z, at_ i z⟩
      · exact .inr (.inl ⟨z, z ▸ put_card⟩)
      · exact .inr (.inr ⟨z, z ▸ put_spt⟩)
    intro i j hi hj q
    rcases cs i hi with ⟨a1, a2⟩ | ⟨a1, a2⟩ | ⟨a1, a2⟩ <;> rcases cs j hj with ⟨b1, b2⟩ | ⟨b1, b2⟩ | ⟨b1, b2⟩ <;> rw [a2, b2] at q
    · exact h.inj i j a1 b1 q
    · exact absurd ⟨i, a1, q⟩ hx
    · exact absurd ⟨i, a1, q⟩ hs
    · exact absurd ⟨j, b1, q.symm⟩ hx
    · rw [a1, b1]
    · exact absurd q hne
    · exact absurd ⟨j, b1, q.symm⟩ hs
    · exact absurd q.symm hne
    · rw [a1, b1]
theorem foot_come {b : Addr} (e : look S.cards t = none) (hb : Foot (g.put t x s dx) { S with cards := S.cards ++ [(t, c)] } b) : Foot g S b ∨ b = x ∨ b = s := by
  obtain ⟨i, hi, rfl⟩ := hb
  rcases (live_add e).mp hi with z | z | z
  · refine .inl ⟨i, z, (put_other ?_ ?_).symm⟩
    · intro q; subst q; exact z e
    · intro q; subst q; exact z e
  · exact .inr (.inl (z ▸ put_card))
  · exact .inr (.inr (z ▸ put_spt))
end
theorem add_up {S : LSt} {t : Int} {c : Card} {f : Card → Card} (e : look S.cards t = none) : ({ S with cards := S.cards ++ [(t, c)] } : LSt).upC t f = { S with cards := S.cards ++ [(t, f c)] } := by
  unfold LSt.upC
  have : (S.cards.map fun p => if p.1 = t then (p.1, f p.2) else p) = S.cards := by
    conv => rhs; rw [← List.map_id S.cards]
    apply List.map_congr_left
    intro p hp
    by_cases z : p.1 = t
    · have := look_key.mpr (List.mem_map.mpr ⟨p, hp, z⟩)
      rw [e] at this
      obtain ⟨_, h⟩ := this
      cases h
    · rw [if_neg z]; rfl
  simp [this]
/-! ### lines as a whole -/
structure LA (kd : Kd) (U0 : Addr → Prop) (H0 : Hp) (g : Geo) (R : Rul) (S : LSt) (H : Hp) : Prop where
  ls : LS kd U0 H0 g S H
  rul : ∃ la ps, RulAt H g.ra R la ps
  ok : R.Ok
  wf : Wf R.lines.length [] S
section
variable {kd : Kd} {U0 : Addr → Prop} {H0 H H' : Hp} {g g' : Geo} {R : Rul} {S S' : LSt} {t : Int} {c : Card} {l : Nat}
theorem LA.trans (h : LA kd U0 H0 g R S H) (k : LA kd (Foot g S) H g' R S' H') : LA kd U0 H0 g' R S' H' := ⟨h.ls.trans k.ls, k.rul, k.ok, k.wf⟩
theorem LA.start (h : LA kd U0 H0 g R S H) : LA kd (Foot g S) H g R S H := ⟨h.ls.lr.start, h.rul, h.ok, h.wf⟩
theorem LA.same (h : LA kd U0 H0 g R S H) (k : Same H H') : LA kd U0 H0 g R S H' := by
  obtain ⟨la, ps, r⟩ := h.rul
  exact ⟨h.ls.same k, ⟨la, ps, r.same k⟩, h.ok, h.wf⟩
theorem LA.new {p : Addr} {o : HO} (h : LA kd U0 H0 g R S H) (n : H p = none) : LA kd U0 H0 g R S (upd H p o) := h.same (Same.upd n)
/-- something else changes -/
theorem LA.apart {W W' : Addr → Prop} (h : LA kd U0 H0 g R S H) (st : Step W H W' H') (d : ∀ b, W b → ¬ Foot g S b) : LA kd (Foot g S) H' g R S H' := by
  obtain ⟨la, ps, r⟩ := h.rul
  exact ⟨(h.ls.lr.frame st.1 d).start, ⟨la, ps, r.frame st.1⟩, h.ok, h.wf⟩
theorem LA.len (h : LA kd U0 H0 g R S H) : S.rows.length = R.lines.length := h.wf.rl
theorem LA.at_ (h : LA kd U0 H0 g R S H) (e : look S.cards t = some c) : c.line < S.rows.length := by rw [h.len]; exact (h.wf.key t c e).2.2.1
theorem LA.spl (h : LA kd U0 H0 g R S H) (e : look S.cards t = some c) : c.sp.length = S.rows.length := by rw [h.len]; exact (h.wf.key t c e).2.2.2
theorem LA.one (h : LA kd U0 H0 g R S H) : 0 < S.rows.length := by rw [h.len]; exact h.ok.one
end
end Qn

/-! Q7: lines in order through a run and a boost; rows anew; lists of empty lists; lists laid flat. -/
namespace Qn
open PySem L2
section
variable {n : Nat} {ts : List Int} {S : LSt} {t : Int} {c : Card} {R : Rul} {l : Nat} {m : Int}
theorem Wf.first (w : Wf n [] S) (e : S.first = some t) : ∃ c j, look S.cards t = some c ∧ c.rdy = true ∧ c.line = j ∧ t ∈ S.row j ∧ j < S.rows.length ∧ S.rdyIx.head? = some j ∧ (S.row j).head? = some t := by
  unfold LSt.first at e
  cases q : S.rdyIx with
  | nil => rw [q] at e; cases e
  | cons j r =>
    rw [q] at e
    have hj : j ∈ S.rdyIx := by rw [q]; exact List.mem_cons_self
    unfold LSt.rdyIx at hj
    obtain ⟨h1, h2⟩ := List.mem_filter.mp hj
    have hl := List.mem_range.mp h1
    cases z : S.row j with
    | nil => rw [z] at h2; cases h2
    | cons u v =>
      have e : some ((S.row j).headD 0) = some t := e
      rw [z] at e
      have e' : u = t := Option.some.inj e
      subst e'
      have hm : u ∈ S.row j := by rw [z]; exact List.mem_cons_self
      obtain ⟨_, c, hc, rd, hl2⟩ := (w.mem j u).mp hm
      exact ⟨c, j, hc, rd, hl2, hm, hl, rfl, by rw [z]; rfl⟩
theorem charge_step (w : Wf n [] S) (e : look S.cards t = some c) (rd : c.rdy = true) (hl : l < n) {S1 : LSt} {c1 : Card} (w1 : Wf n [] S1) (e1 : look S1.cards t = some c1) (r1 : c1.rdy = true) (l1 : c1.line = c.line) : Wf n [] (LSt.lay R (S1.upR c.line (·.erase t)) t l) := by
  have := w1.off e1
  rw [l1] at this
  exact this.lay (c := c1) e1 r1 hl (by simp)
theorem Wf.charge (w : Wf n [] S) (e : look S.cards t = some c) (rd : c.rdy = true) (hn : 0 < n) : Wf n [] (S.charge R t m) := by
  have w1 := w.upC (t := t) (f := fun c => { c with sp := c.sp.modify c.line (· + m), q := c.q - m, sh := c.sh - m }) fun c => ⟨rfl, rfl, List.length_modify ..⟩
  have e1 : look (S.upC t fun c => { c with sp := c.sp.modify c.line (· + m), q := c.q - m, sh := c.sh - m }).cards t = some { c with sp := c.sp.modify c.line (· + m), q := c.q - m, sh := c.sh - m } := by rw [look_upC, if_pos rfl, e]; rfl
  unfold LSt.charge
  rw [LSt.card_of e]
  dsimp only
  have kl := (w.key t c e).2.2.1
  by_cases h1 : c.sh - m = 0
  · rw [if_pos h1]
    have w2 := w1.upC (t := t) (f := fun c' => { c' with sh := R.s (min (S.rows.length - 1) (c.line + 1)) }) fun c => ⟨rfl, rfl, rfl⟩
    by_cases h2 : c.line < S.rows.length - 1 ∨ c.q - m = 0
    · rw [if_pos h2]
      refine charge_step w e rd (by rw [w.rl]; omega) w2 (c1 := { c with sp := c.sp.modify c.line (· + m), q := c.q - m, sh := R.s (min (S.rows.length - 1) (c.line + 1)) }) ?_ rd rfl
      rw [look_upC, if_pos rfl, e1]; rfl
    · rw [if_neg h2]; exact w2
  · rw [if_neg h1]
    by_cases h2 : c.q - m = 0
    · rw [if_pos h2]
      exact charge_step w e rd kl w1 e1 rd rfl
    · rw [if_neg h2]; exact w1
theorem Wf.setT {z : Int} (w : Wf n ts S) : Wf n ts { S with time := z } := ⟨w.rl, w.key, w.nd, w.mem, w.rnd⟩
theorem Wf.run (w : Wf n [] S) (hn : 0 < n) : Wf n [] (S.run R m) := by
  unfold LSt.run
  have w1 := w.setT (z := S.time + m)
  cases e : ({ S with time := S.time + m } : LSt).first with
  | none => exact w1
  | some t =>
    obtain ⟨c, j, hc, rd, _⟩ := w1.first e
    exact w1.charge hc rd hn
/-! a boost -/
def LSt.later (S : LSt) : List Int := (S.rows.drop 1).flatten
theorem mem_later : t ∈ S.later ↔ ∃ l, 1 ≤ l ∧ t ∈ S.row l := by
  unfold LSt.later
  rw [List.mem_flatten]
  constructor
  · rintro ⟨xs, hx, ht⟩
    obtain ⟨i, hi, rfl⟩ := List.mem_iff_getElem.mp hx
    rw [List.getElem_drop] at ht
    rw [List.length_drop] at hi
    exact ⟨1 + i, by omega, by rw [LSt.row_some (List.getElem?_eq_getElem (by omega))]; exact ht⟩
  · rintro ⟨l, h1, ht⟩
    have hl : l < S.rows.length := by
      apply Classical.byContradiction
      intro z
      unfold LSt.row at ht
      rw [List.getD_eq_getElem?_getD, List.getElem?_eq_none (by omega)] at ht
      cases ht
    refine ⟨S.row l, ?_, ht⟩
    have := LSt.row_at hl
    apply List.mem_iff_getElem?.mpr
    exact ⟨l - 1, by rw [List.getElem?_drop]; rw [show 1 + (l - 1) = l by omega]; exact this⟩
theorem Wf.laterND (w : Wf n [] S) : S.later.Nodup := by
  unfold LSt.later
  show List.Pairwise _ _
  rw [List.pairwise_flatten]
  constructor
  · intro xs hx
    obtain ⟨i, hi, rfl⟩ := List.mem_iff_getElem.mp (List.mem_of_mem_drop hx)
    have := w.rnd i
    rw [LSt.row_some (List.getElem?_eq_getElem hi)] at this
    exact this
  · rw [List.pairwise_iff_getElem]
    intro i j hi hj hij x hx y hy z
    rw [List.getElem_drop] at hx hy
    rw [List.length_drop] at hi hj
    subst z
    have h1 : x ∈ S.row (1 + i) := by rw [LSt.row_some (List.getElem?_eq_getElem (by omega))]; exact hx
    have h2 : x ∈ S.row (1 + j) := by rw [LSt.row_some (List.getElem?_eq_getElem (by omega))]; exact hy
    obtain ⟨_, c, e, _, a⟩ := (w.mem _ _).mp h1
    obtain ⟨_, c', e', _, a'⟩ := (w.mem _ _).mp h2
    rw [e] at e'
    have := Option.some.inj e'
    subst this
    omega
theorem row_clear {i : Nat} (hn : 0 < S.rows.length) : (S.clear R).row i = if i = 0 then S.row 0 else [] := by
  unfold LSt.clear LSt.row
  cases i with
  | zero => simp
  | succ i =>
    simp only [List.getD_cons_succ, if_neg (Nat.succ_ne_zero i)]
    rw [List.getD_eq_getElem?_getD]
    by_cases h : i < S.rows.length - 1
    · rw [List.getElem?_replicate, if_pos h]; rfl
    · rw [List.getElem?_replicate, if_neg h]; rfl
theorem Wf.clear (w : Wf n [] S) (hn : 0 < n) : Wf n S.later (S.clear R) := by
  have hn' : 0 < S.rows.length := by rw [w.rl]; exact hn
  have lk : ∀ u, look (S.clear R).cards u = (look S.cards u).map fun c => { c with line := 0, sh := R.s 0 } := fun u => look_map (f := fun c => { c with line := 0, sh := R.s 0 })
  refine ⟨by unfold LSt.clear; simp; have := w.rl; omega, fun u c e => ?_, ?_, fun l u => ?_, fun l => ?_⟩
  · rw [lk] at e
    cases z : look S.cards u with
    | none => rw [z] at e; cases e
    | some c' =>
      rw [z] at e
      rw [← Option.some.inj e]
      have := w.key u c' z
      exact ⟨this.1, this.2.1, hn, this.2.2.2⟩
  · show ((S.cards.map _).map Prod.fst).Nodup
    rw [List.map_map]
    exact w.nd
  · rw [row_clear hn', lk]
    by_cases h0 : l = 0
    · rw [if_pos h0, w.mem 0 u]
      constructor
      · rintro ⟨_, c, e, r, z⟩
        refine ⟨fun h => ?_, { c with line := 0, sh := R.s 0 }, by rw [e]; rfl, r, h0.symm⟩
        obtain ⟨l', h1, h2⟩ := mem_later.mp h
        obtain ⟨_, c', e', _, z'⟩ := (w.mem l' u).mp h2
        rw [e] at e'
        have := Option.some.inj e'
        subst this
        omega
      · rintro ⟨a, c, e, r, z⟩
        refine ⟨by simp, ?_⟩
        cases q : look S.cards u with
        | none => rw [q] at e; cases e
        | some c' =>
          rw [q] at e
          have e' := Option.some.inj e
          have r' : c'.rdy = true := by rw [← e'] at r; exact r
          refine ⟨c', rfl, r', ?_⟩
          apply Classical.byContradiction
          intro nz
          exact a (mem_later.mpr ⟨c'.line, by omega, (w.mem _ _).mpr ⟨by simp, c', q, r', rfl⟩⟩)
    · rw [if_neg h0]
      constructor
      · intro h; cases h
      · rintro ⟨a, c, e, r, z⟩
        cases q : look S.cards u with
        | none => rw [q] at e; cases e
        | some c' =>
          rw [q] at e
          rw [← Option.some.inj e] at z
          exact absurd z.symm h0
  · rw [row_clear hn']
    by_cases h0 : l = 0
    · rw [if_pos h0]; exact w.rnd 0
    · rw [if_neg h0]; exact List.nodup_nil
theorem look_lay {S : LSt} {t u : Int} {l : Nat} : look (S.lay R t l).cards u = if u = t then (look S.cards u).map (fun c => { c with line := l, q := R.q l }) else look S.cards u := look_upC (f := fun c => { c with line := l, q := R.q l })
theorem Wf.lays : ∀ {ts : List Int} {S : LSt}, Wf n ts S → ts.Nodup → (∀ t ∈ ts, ∃ c, look S.cards t = some c ∧ c.rdy = true) → 0 < n → Wf n [] (ts.foldl (fun S t => LSt.lay R S t 0) S)
  | [], _, w, _, _, _ => w
  | t :: r, S, w, nd, h, hn => by
    obtain ⟨c, e, rd⟩ := h t List.mem_cons_self
    have nd' := List.nodup_cons.mp nd
    refine Wf.lays (ts := r) (w.lay e rd hn nd'.1) nd'.2 (fun u hu => ?_) hn
    have ne : u ≠ t := fun z => nd'.1 (z ▸ hu)
    rw [look_lay, if_neg ne]
    exact h u (List.mem_cons_of_mem _ hu)
theorem Wf.boosted (w : Wf n [] S) (hn : 0 < n) : Wf n [] (S.boosted R) := by
  refine Wf.lays (w.clear hn) w.laterND (fun t ht => ?_) hn
  obtain ⟨l, _, h⟩ := mem_later.mp ht
  obtain ⟨_, c, e, rd, _⟩ := (w.mem l t).mp h
  exact ⟨{ c with line := 0, sh := R.s 0 }, by rw [show look (S.clear R).cards t = _ from look_map (f := fun c => { c with line := 0, sh := R.s 0 }), e]; rfl, rd⟩
end
end Qn

/-! Q8: rows anew; lists of empty lists; lists laid flat. -/
namespace Qn
open PySem L2
/-- [[] for x in ..]: new lists, apart -/
structure Nils (H1 H' : Hp) (D : Addr) (qs : List Addr) : Prop where
  same : Same H1 H'
  nd : qs.Nodup
  each : ∀ q ∈ qs, H1 q = none ∧ q ≠ D ∧ H' q = some (.lst [])
theorem w_nils {J : It} {n m : Nat} {G : Hp → Prop} {Y : Nat → Hp → V → Hp → Prop} {σ : St} {H1 : Hp} {Q : VK} (w : Walk J n G Y) (hz : n ≤ 1000) (hm : m < σ.length) (hG : ∀ H', Same H1 H' → G H') (hY : ∀ i H x H', Y i H x H' → H' = H)
    (k : ∀ D qs H', H1 D = none → H' D = some (.lst (qs.map V.ref)) → qs.length = n → Nils H1 H' D qs → Q (.ref D) H') : kLc J (gName m) tYes (tLst tNil) [m] σ Q H1 := by
  refine w_lc w rfl (fun D i acc H' => ∃ qs, acc = qs.map V.ref ∧ qs.length = i ∧ Nils H1 H' D qs) (fun D hD => ⟨[], rfl, rfl, Same.upd hD, List.nodup_nil, fun q h => by cases h⟩) (fun D i acc H' hD hi ha p => by obtain ⟨qs, _, _, N⟩ := p; exact hG _ N.same) ?_ ?_
  · rintro D i acc x H H' hD hi ha ⟨qs, rfl, hl, N⟩ y
    cases hY i H x H' y
    show wipe ((wipe σ [m]).set m (some x)) [m] = wipe σ [m] ∧ _
    refine ⟨by show (((σ.set m none).set m (some x)).set m none) = σ.set m none; rw [List.set_set, List.set_set], ?_⟩
    refine r_kTT ?_
    refine r_kLst (by decide) fun q nq => ?_
    have nD : D ≠ q := fun z => by rw [← z, ha] at nq; cases nq
    have n1 : H1 q = none := by
      cases e : H1 q with
      | none => rfl
      | some o => rw [N.same q o e] at nq; cases nq
    refine r_kApp (by rw [upd_ne nD]; exact ha) (by rw [List.length_map]; omega) ⟨qs ++ [q], by rw [List.map_append]; rfl, by simp [hl], ?_, ?_, ?_⟩
    · exact Same.late (N.same.trans (Same.upd nq)) hD
    · refine List.nodup_append.mpr ⟨N.nd, by simp, fun a ha' b hb => ?_⟩
      rw [List.mem_singleton] at hb
      intro z
      rw [hb] at z
      rw [z] at ha'
      rw [(N.each q ha').2.2] at nq; cases nq
    · intro b hb
      rcases List.mem_append.mp hb with h | h
      · obtain ⟨h1, h2, h3⟩ := N.each b h
        refine ⟨h1, h2, ?_⟩
        rw [upd_ne h2, upd_ne fun z => by rw [z, nq] at h3; cases h3]
        exact h3
      · rw [List.mem_singleton] at h
        subst h
        exact ⟨n1, Ne.symm nD, by rw [upd_ne (Ne.symm nD)]; exact upd_same⟩
  · rintro D acc H hD ha ⟨qs, rfl, hl, N⟩
    exact k D qs H hD ha hl N
/-! rows anew -/
def Geo.rows (g : Geo) (y : Addr) (f : Nat → Addr) : Geo := { g with adr := fun
  | .rws => y
  | .row (j + 1) => f j
  | i => g.adr i }
section
variable {kd : Kd} {U0 : Addr → Prop} {H0 H H' : Hp} {g : Geo} {S : LSt} {t : Int} {c : Card} {y : Addr} {f : Nat → Addr}
def LSt.reRows (S : LSt) : LSt := { S with rows := S.row 0 :: List.replicate (S.rows.length - 1) [] }
theorem LR.reRows (h : LR kd g S H) (hn : 0 < S.rows.length) (hy : ¬ Foot g S y) (hf : ∀ j, j < S.rows.length - 1 → ¬ Foot g S (f j) ∧ f j ≠ y ∧ H' (f j) = some (.lst [])) (inj : ∀ i j, i < S.rows.length - 1 → j < S.rows.length - 1 → f i = f j → i = j)
    (old : ∀ i o, lcont kd g S i = some o → i ≠ .self → H' (g.adr i) = some o) (hs : H' (g.adr .self) = some (kd.self (g.rows y f) S.time)) (h1 : H' y = some (.lst (.ref (g.adr (.row 0)) :: (List.range (S.rows.length - 1)).map fun j => .ref (f j)))) :
    LR kd (g.rows y f) S.reRows H' := by
  have len : S.reRows.rows.length = S.rows.length := by unfold LSt.reRows; simp; omega
  have at_ : ∀ i, i ≠ .rws → (∀ j, i ≠ .row (j + 1)) → (g.rows y f).adr i = g.adr i := fun i n1 n2 => by
    cases i with
    | rws => exact absurd rfl n1
    | row j => cases j with
      | zero => rfl
      | succ j => exact absurd rfl (n2 j)
    | _ => rfl
  constructor
  · intro i o ho
    cases i with
    | self => exact hs.trans ho
    | cards => exact old .cards o ho (by intro z; cases z)
    | rws =>
      refine h1.trans ?_
      have ho' : some (HO.lst ((List.range S.reRows.rows.length).map fun i => V.ref ((g.rows y f).adr (.row i)))) = some o := ho
      rw [← ho', len]
      congr 2
      obtain ⟨n, hn⟩ : ∃ n, S.rows.length = n + 1 := ⟨S.rows.length - 1, by omega⟩
      rw [hn, List.range_succ_eq_map, List.map_cons, List.map_map]
      rfl
    | row j =>
      cases j with
      | zero =>
        refine old (.row 0) o ?_ (by intro z; cases z)
        rw [← ho]
        have e1 : S.reRows.rows[0]? = some (S.row 0) := rfl
        simp only [lcont]
        rw [LSt.row_at hn, e1]
      | succ j =>
        have ho' : (S.reRows.rows[j + 1]?).map (fun xs => HO.lst (xs.map V.int)) = some o := ho
        have hj : j < S.rows.length - 1 := by
          apply Classical.byContradiction
          intro z
          rw [List.getElem?_eq_none (by omega)] at ho'; cases ho'
        have : S.reRows.rows[j + 1]? = some [] := by
          show (List.replicate (S.rows.length - 1) ([] : List Int))[j]? = some []
          rw [List.getElem?_replicate, if_pos hj]
        rw [this] at ho'
        exact (hf j hj).2.2.trans ho'
    | card u =>
      refine old (.card u) o ?_ (by intro z; cases z)
      rw [← ho]
      show (look S.cards u).map _ = (look S.cards u).map _
      congr 1
      funext c
      exact (kd.card_at g (g.rows y f) u c _ rfl).symm
    | spt u => exact old (.spt u) o ho (by intro z; cases z)
  · have cs : ∀ i, live S.reRows i → (live S i ∧ (g.rows y f).adr i = g.adr i) ∨ (i = .rws) ∨ ∃ j, i = .row (j + 1) ∧ j < S.rows.length - 1 := fun i hi => by
      cases i with
      | rws => exact .inr (.inl rfl)
      | row j =>
        have hi' : j < S.reRows.rows.length := hi
        cases j with
        | zero => exact .inl ⟨hn, rfl⟩
        | succ j => exact .inr (.inr ⟨j, rfl, by omega⟩)
      | self => exact .inl ⟨trivial, rfl⟩
      | cards => exact .inl ⟨trivial, rfl⟩
      | card u => exact .inl ⟨hi, rfl⟩
      | spt u => exact .inl ⟨hi, rfl⟩
    intro i j hi hj q
    rcases cs i hi with ⟨a1, a2⟩ | a1 | ⟨u, a1, a2⟩ <;> rcases cs j hj with ⟨b1, b2⟩ | b1 | ⟨v, b1, b2⟩
    · rw [a2, b2] at q; exact h.inj i j a1 b1 q
    · subst b1; rw [a2] at q; exact absurd ⟨i, a1, q⟩ hy
    · subst b1; rw [a2] at q; exact absurd ⟨i, a1, q⟩ (hf v b2).1
    · subst a1; rw [b2] at q; exact absurd ⟨j, b1, q.symm⟩ hy
    · rw [a1, b1]
    · subst a1 b1; exact absurd (show f v = y from q.symm) (hf v b2).2.1
    · subst a1; rw [b2] at q; exact absurd ⟨j, b1, q.symm⟩ (hf u a2).1
    · subst a1 b1; exact absurd (show f u = y from q) (hf u a2).2.1
    · subst a1 b1; rw [inj u v a2 b2 q]
theorem foot_reRows {b : Addr} (hn : 0 < S.rows.length) (hb : Foot (g.rows y f) S.reRows b) : Foot g S b ∨ b = y ∨ ∃ j, j < S.rows.length - 1 ∧ b = f j := by
  have len : S.reRows.rows.length = S.rows.length := by unfold LSt.reRows; simp; omega
  obtain ⟨i, hi, rfl⟩ := hb
  cases i with
  | rws => exact .inr (.inl rfl)
  | row j =>
    have hi' : j < S.reRows.rows.length := hi
    cases j with
    | zero => exact .inl ⟨.row 0, hn, rfl⟩
    | succ j => exact .inr (.inr ⟨j, by omega, rfl⟩)
  | self => exact .inl ⟨.self, trivial, rfl⟩
  | cards => exact .inl ⟨.cards, trivial, rfl⟩
  | card u => exact .inl ⟨.card u, hi, rfl⟩
  | spt u => exact .inl ⟨.spt u, hi, rfl⟩
end
theorem put_LF_rows {g : Geo} {z : Int} {y : Addr} {f : Nat → Addr} : putF "rows" (.ref y) (LF g z) = LF (g.rows y f) z := by
  unfold LF; rw [put_miss (by decide +kernel), put_miss (by decide +kernel), put_hit]; rfl
/-! all cards changed, one by one -/
theorem ups_all {S : LSt} {f : Card → Card} (hf : ∀ c, f (f c) = f c) : (S.cards.map Prod.fst).foldl (fun S t => S.upC t f) S = { S with cards := S.cards.map fun p => (p.1, f p.2) } := by
  have aux : ∀ (ks : List Int) (S : LSt), ks.foldl (fun S t => S.upC t f) S = { S with cards := S.cards.map fun p => if p.1 ∈ ks then (p.1, f p.2) else p } := by
    intro ks
    induction ks with
    | nil => intro S; simp
    | cons k r ih =>
      intro S
      rw [List.foldl_cons, ih]
      unfold LSt.upC
      simp only [List.map_map]
      congr 1
      apply List.map_congr_left
      intro p _
      by_cases e : p.1 = k
      · by_cases e2 : k ∈ r <;> simp [e, e2, hf]
      · by_cases e2 : p.1 ∈ r <;> simp [e, e2]
  rw [aux]
  congr 1
  apply List.map_congr_left
  intro p hp
  rw [if_pos (List.mem_map.mpr ⟨p, hp, rfl⟩)]
end Qn

/-! Q9: [x for row in rows for x in row]: rows laid flat. -/
namespace Qn
open PySem L2
def kLc2 (K : PySem.W.Frag) (J : It) (m m1 : Nat) (σ : St) (Q : VK) (H1 : Hp) : Prop := ∀ D, H1 D = none → ∃ W : Nat → Nat → Hp → Prop, (∃ m, W 0 m (upd H1 D (.lst []))) ∧ ∀ i k H, W i k H →
  (J.stop i H ∧ Q (.ref D) H) ∨ (J.go i H ∧ ∃ Nx : Hp → Prop, (∀ H', Nx H' → ∃ m', m' < k ∧ W (i + 1) m' H') ∧ ∀ x H', J.yld i H x H' → gName m x (wipe σ [m, m1]) H' fun σ2 H2 => wipe σ2 [m, m1] = wipe σ [m, m1] ∧ tYes σ2 H2 fun b H3 =>
    if b = true then iList K (tVar m) σ2 H3 fun J1 H4 => ∃ W1 : Nat → Nat → Hp → Prop, (∃ m, W1 0 m H4) ∧ ∀ j k H, W1 j k H →
      (J1.stop j H ∧ Nx H) ∨ (J1.go j H ∧ ∃ Nx1 : Hp → Prop, (∀ H', Nx1 H' → ∃ k', k' < k ∧ W1 (j + 1) k' H') ∧ ∀ x H', J1.yld j H x H' → gName m1 x (wipe σ2 [m1]) H' fun σ3 H5 => wipe σ3 [m1] = wipe σ2 [m1] ∧ tYes σ3 H5 fun b H6 =>
        if b = true then tVar m1 σ3 H6 fun y H7 => ∃ acc, H7 D = some (.lst acc) ∧ acc.length < sizeLine ∧ Nx1 (upd H7 D (.lst (acc ++ [y]))) else Nx1 H6)
    else Nx H3)
instance rd_lc2 {K : PySem.W.Frag} {wi : TI} {m m1 : Nat} {σ : St} {H : Hp} {Q : VK} : Rd (tLc2 wi (gName m) tYes (iList K (tVar m)) (gName m1) tYes (tVar m1) [m, m1] [m1] σ H Q) (wi σ H fun J H1 => kLc2 K J m m1 σ Q H1) := ⟨id⟩
theorem flat_snoc {xss : List (List Int)} {i : Nat} {xs : List Int} (h : xss[i]? = some xs) : (xss.take (i + 1)).flatten = (xss.take i).flatten ++ xs := by
  rw [List.take_add_one, h, List.flatten_append]; simp
theorem w_flat {K : PySem.W.Frag} {p : Addr} {m m1 : Nat} {σ : St} {H1 : Hp} {Q : VK} {rs : List Addr} {xss : List (List Int)} (hp : H1 p = some (.lst (rs.map V.ref))) (hl : rs.length = xss.length)
    (hr : ∀ (i : Nat) (r : Addr) (xs : List Int), rs[i]? = some r → xss[i]? = some xs → H1 r = some (.lst (xs.map V.int))) (hz : xss.flatten.length < 100000) (hm : m < σ.length) (hm1 : m1 < σ.length) (ne : m ≠ m1)
    (k : ∀ D H', H1 D = none → Same H1 H' → H' D = some (.lst (xss.flatten.map V.int)) → Q (.ref D) H') : kLc2 K (Itl K p) m m1 σ Q H1 := by
  intro D hD
  have w := walk_list (K := K) (a := p) (xs := rs.map V.ref)
  rw [List.length_map] at w
  refine ⟨fun i k H => k = rs.length - i ∧ i ≤ rs.length ∧ Same H1 H ∧ H D = some (.lst ((xss.take i).flatten.map V.int)), ⟨rs.length, by simp, Nat.zero_le _, Same.upd hD, by rw [List.take_zero]; exact upd_same⟩, ?_⟩
  rintro i q H ⟨rfl, hi, s1, hd⟩
  have hq := SqL.of (K := K) (s1 _ _ hp)
  by_cases hlt : i < rs.length
  · refine .inr ⟨w.goes i H hlt hq, fun H' => Same H1 H' ∧ H' D = some (.lst ((xss.take (i + 1)).flatten.map V.int)), fun H' p' => ⟨rs.length - (i + 1), by omega, rfl, hlt, p'.1, p'.2⟩, fun x H' y => ?_⟩
    obtain ⟨rfl, hx⟩ := w.yields i H x H' hlt hq y
    rw [List.getElem?_map] at hx
    have er : rs[i]? = some rs[i] := List.getElem?_eq_getElem hlt
    rw [er] at hx
    cases Option.some.inj hx
    have hlt' : i < xss.length := by omega
    have ex : xss[i]? = some xss[i] := List.getElem?_eq_getElem hlt'
    generalize hxs : xss[i] = xs at ex
    generalize hrr : rs[i] = r at er
    have hrow := hr i r xs er ex
    have wl : (wipe σ [m, m1]).length = σ.length := wipe_length σ _
    show wipe ((wipe σ [m, m1]).set m (some (V.ref r))) [m, m1] = wipe σ [m, m1] ∧ _
    refine ⟨?_, ?_⟩
    · show (((((σ.set m1 none).set m none).set m (some (V.ref r))).set m1 none).set m none) = ((σ.set m1 none).set m none)
      rw [List.set_set, List.set_comm _ _ (Ne.symm ne), List.set_set, List.set_comm _ _ ne, List.set_set]
    refine r_yes ?_
    refine r_kTT ?_
    refine ⟨V.ref r, by rw [List.getElem?_set_self (by omega)], ?_⟩
    refine ⟨r, rfl, ⟨xs.map V.int, SqL.of (s1 _ _ hrow)⟩, ?_⟩
    have w1 := walk_list (K := K) (a := r) (xs := xs.map V.int)
    rw [List.length_map] at w1
    refine ⟨fun j k H => k = xs.length - j ∧ j ≤ xs.length ∧ Same H1 H ∧ H D = some (.lst (((xss.take i).flatten ++ xs.take j).map V.int)), ⟨xs.length, by simp, Nat.zero_le _, s1, by rw [List.take_zero, List.append_nil]; exact hd⟩, ?_⟩
    rintro j q H2 ⟨rfl, hj, s2, hd2⟩
    have hq2 := SqL.of (K := K) (s2 _ _ hrow)
    by_cases hjl : j < xs.length
    · refine .inr ⟨w1.goes j H2 hjl hq2, fun H' => Same H1 H' ∧ H' D = some (.lst (((xss.take i).flatten ++ xs.take (j + 1)).map V.int)), fun H' p' => ⟨xs.length - (j + 1), by omega, rfl, hjl, p'.1, p'.2⟩, fun x H3 y => ?_⟩
      obtain ⟨rfl, hx⟩ := w1.yields j H2 x H3 hjl hq2 y
      rw [List.getElem?_map, List.getElem?_eq_getElem hjl] at hx
      cases Option.some.inj hx
      show wipe ((wipe ((wipe σ [m, m1]).set m (some (V.ref r))) [m1]).set m1 (some (V.int xs[j]))) [m1] = wipe ((wipe σ [m, m1]).set m (some (V.ref r))) [m1] ∧ _
      refine ⟨by show ((((wipe σ [m, m1]).set m (some (V.ref r))).set m1 none).set m1 (some (V.int xs[j]))).set m1 none = ((wipe σ [m, m1]).set m (some (V.ref r))).set m1 none; rw [List.set_set, List.set_set], ?_⟩
      refine r_yes ?_
      refine r_kTT ?_
      refine ⟨V.int xs[j], by rw [List.getElem?_set_self (by rw [wipe_length, List.length_set]; omega)], ?_⟩
      refine ⟨_, hd2, ?_, Same.late s2 hD, ?_⟩
      · refine Nat.lt_of_lt_of_le ?_ (show 100000 ≤ sizeLine by decide)
        have e1 : ((xss.take i).flatten ++ xs).length ≤ xss.flatten.length := by
          rw [← flat_snoc ex]
          conv => rhs; rw [← List.take_append_drop (i + 1) xss]
          rw [List.flatten_append, List.length_append]; omega
        rw [List.length_append] at e1
        rw [List.length_map, List.length_append, List.length_take]
        omega
      · rw [upd_same]
        have e2 : xs.take (j + 1) = xs.take j ++ [xs[j]] := by rw [List.take_add_one, List.getElem?_eq_getElem hjl]; rfl
        rw [e2, ← List.append_assoc, List.map_append (l₂ := [xs[j]])]; rfl
    · have e : j = xs.length := by omega
      subst e
      refine .inl ⟨w1.stops H2 hq2, s2, ?_⟩
      rw [flat_snoc ex]
      rw [List.take_length] at hd2
      exact hd2
  · have e : i = rs.length := by omega
    subst e
    refine .inl ⟨w.stops H hq, k D H hD s1 ?_⟩
    rw [hl, List.take_length] at hd
    exact hd
end Qn

/-! Q10: cuts from the second on; a locked dict of cards; values of it. -/
namespace Qn
open PySem L2
theorem cut1 {xs : List V} : cutV xs (some 1) none = xs.drop 1 := by
  unfold cutV
  rw [show (some (1 : Int)) = some (((1 : Nat) : Int)) from rfl, HT.sIx_nat, HT.sIx_none]
  cases xs with
  | nil => rfl
  | cons x r => simp
theorem drop_refs {n : Nat} {A : Nat → Addr} (hn : 0 < n) : ((List.range n).map fun i => V.ref (A i)).drop 1 = ((List.range (n - 1)).map fun j => A (j + 1)).map V.ref := by
  obtain ⟨m, rfl⟩ : ∃ m, n = m + 1 := ⟨n - 1, by omega⟩
  rw [List.range_succ_eq_map, List.map_cons, List.drop_succ_cons, List.drop_zero, List.map_map, Nat.add_sub_cancel, List.map_map]
  rfl
section
variable {K : PySem.W.Frag} {H : Hp} {Q : VK} {a : Addr} {xs : List V} {R : It → Hp → Prop} {ta : TE} {σ : St}
theorem r_slA1 (h : SqT K H a xs) (hn : 0 < xs.length) (k : ∀ p, H p = none → Q (.ref p) (upd H p (.tup (xs.drop 1)))) : rSlA K (.ref a) (some 1) none H Q := by
  refine ⟨a, xs, rfl, h, fun z => ?_, fun _ p hp => ?_⟩
  · have := z.1
    rw [show (some (1 : Int)) = some (((1 : Nat) : Int)) from rfl, HT.sIx_nat] at this
    omega
  · rw [cut1]; exact k p hp
def kIVals (x : V) (H1 : Hp) (R : It → Hp → Prop) : Prop := ∃ d o kvs, x = .ref d ∧ H1 d = some (.frz o (.dK kvs)) ∧ R (Itd d o kvs) H1
instance rd_iVals : Rd (iVals ta σ H R) (ta σ H fun x H1 => kIVals x H1 R) := ⟨id⟩
theorem r_kIVals {o : Obj} {kvs : List (Key × V)} (h : H a = some (.frz o (.dK kvs))) (k : R (Itd a o kvs) H) : kIVals (.ref a) H R := ⟨a, o, kvs, rfl, h, k⟩
end
theorem upd_com {H : Hp} {a b : Addr} {o u : HO} (h : a ≠ b) : upd (upd H a o) b u = upd (upd H b u) a o := by
  funext c
  by_cases ca : c = a
  · subst ca; rw [upd_ne h, upd_same, upd_same]
  · by_cases cb : c = b
    · subst cb; rw [upd_same, upd_ne ca, upd_same]
    · rw [upd_ne cb, upd_ne ca, upd_ne ca, upd_ne cb]
theorem upd_own {H : Hp} {a : Addr} {o : HO} (h : H a = some o) : upd H a o = H := by
  funext c
  by_cases ca : c = a
  · subst ca; rw [upd_same, h]
  · rw [upd_ne ca]
/-- the lines but that their dict of cards is locked -/
structure LF_ (kd : Kd) (U0 : Addr → Prop) (H0 : Hp) (g : Geo) (S : LSt) (od : Obj) (kvs : List (Key × V)) (H : Hp) : Prop where
  frz : H (g.adr .cards) = some (.frz od (.dK kvs))
  ls : LS kd U0 H0 g S (upd H (g.adr .cards) (.dK kvs))
section
variable {K : PySem.W.Frag} {CL CC : Addr} {U0 : Addr → Prop} {H0 H : Hp} {g : Geo} {S : LSt} {t : Int} {c : Card} {l : Nat} {R : Hp → Prop} {od : Obj} {kvs : List (Key × V)} {kd : Kd}
theorem LF_.start (L : LS kd U0 H0 g S H) : LF_ kd U0 H0 g S od (refs (fun t => g.adr (.card t)) S.cards) (upd H (g.adr .cards) (.frz od (.dK (refs (fun t => g.adr (.card t)) S.cards)))) :=
  ⟨upd_same, by rw [upd_upd, upd_own L.lr.hcards]; exact L⟩
theorem LF_.ne (L : LF_ kd U0 H0 g S od kvs H) {i : LC} (h : live S i) (hi : i ≠ .cards) : g.adr i ≠ g.adr .cards := fun z => hi (L.ls.lr.inj i .cards h trivial z)
theorem LF_.cell (L : LF_ kd U0 H0 g S od kvs H) {i : LC} {o : HO} (h : lcont kd g S i = some o) (hi : i ≠ .cards) : H (g.adr i) = some o := by
  have := L.ls.lr.there i o h
  rw [upd_ne (L.ne (cont_live h) hi)] at this
  exact this
theorem LF_.sf (L : LF_ (LKd CL CC) U0 H0 g S od kvs H) : H (g.adr .self) = some (.ins CL g.dx (LF g S.time)) := L.cell (i := .self) rfl (by intro z; cases z)
theorem LF_.cd (L : LF_ (LKd CL CC) U0 H0 g S od kvs H) (e : look S.cards t = some c) : H (g.adr (.card t)) = some (.ins CC (g.cdx t) (CF c (g.adr (.spt t)))) := L.cell (i := .card t) (by simp only [lcont]; rw [e]; rfl) (by intro z; cases z)
theorem LF_.tup (L : LF_ kd U0 H0 g S od kvs H) {b : Addr} {xs : List V} (h : H0 b = some (.tup xs)) : H b = some (.tup xs) := by
  have := L.ls.st.1.2 b xs h
  by_cases e : b = g.adr .cards
  · rw [e, upd_same] at this; cases this
  · rw [upd_ne e] at this; exact this
theorem LF_.put {f : Card → Card} (L : LF_ kd U0 H0 g S od kvs H) (e : look S.cards t = some c) (hf : (f c).sp = c.sp) : LF_ kd U0 H0 g (S.upC t f) od kvs (upd H (g.adr (.card t)) (kd.card g t (f c) (g.adr (.spt t)))) := by
  have ne := L.ne (i := .card t) (by show look S.cards t ≠ none; rw [e]; simp) (by intro z; cases z)
  refine ⟨by rw [upd_ne (Ne.symm ne)]; exact L.frz, ?_⟩
  rw [upd_com ne]
  exact L.ls.setC e hf
theorem kf_line (L : LF_ (LKd CL CC) U0 H0 g S od kvs H) (e : look S.cards t = some c) (cl : Cls K CC) (na : NoAttr K CC "line") (k : ∀ H', LF_ (LKd CL CC) U0 H0 g (S.upC t fun c => { c with line := l }) od kvs H' → R H') :
    kSetF K "line" (.int (l : Nat)) (.ref (g.adr (.card t))) H R := by
  refine r_kSetF (L.cd e) cl na len_CF ?_
  rw [put_CF_line]
  exact k _ (L.put (f := fun c => { c with line := l }) e rfl)
theorem kf_share {z : Int} (L : LF_ (LKd CL CC) U0 H0 g S od kvs H) (e : look S.cards t = some c) (cl : Cls K CC) (na : NoAttr K CC "share") (k : ∀ H', LF_ (LKd CL CC) U0 H0 g (S.upC t fun c => { c with sh := z }) od kvs H' → R H') :
    kSetF K "share" (.int z) (.ref (g.adr (.card t))) H R := by
  refine r_kSetF (L.cd e) cl na len_CF ?_
  rw [put_CF_share]
  exact k _ (L.put (f := fun c => { c with sh := z }) e rfl)
end
theorem range_getD {n : Nat} {qs : List Addr} (h : qs.length = n) : ((List.range n).map fun j => V.ref (qs.getD j 0)) = qs.map V.ref := by
  apply List.ext_getElem
  · simp [h]
  · intro i h1 h2
    have h1' : i < qs.length := by simpa using h2
    simp [List.getD, h1']
theorem ups_keys {S : LSt} {f : Card → Card} {ks : List Int} (hf : ∀ c, f (f c) = f c) (hk : ∀ p ∈ S.cards, p.1 ∈ ks) : ks.foldl (fun S t => S.upC t f) S = { S with cards := S.cards.map fun p => (p.1, f p.2) } := by
  have aux : ∀ (ks : List Int) (S : LSt), ks.foldl (fun S t => S.upC t f) S = { S with cards := S.cards.map fun p => if p.1 ∈ ks then (p.1, f p.2) else p } := by
    intro ks
    induction ks with
    | nil => intro S; simp
    | cons k r ih =>
      intro S
      rw [List.foldl_cons, ih]
      unfold LSt.upC
      simp only [List.map_map]
      congr 1
      apply List.map_congr_left
      intro p _
      by_cases e : p.1 = k
      · by_cases e2 : k ∈ r <;> simp [e, e2, hf]
      · by_cases e2 : p.1 ∈ r <;> simp [e, e2]
  rw [aux]
  congr 1
  apply List.map_congr_left
  intro p hp
  rw [if_pos (hk p hp)]
/-- later rows emptied, the first i of them -/
def LSt.empt (S : LSt) (i : Nat) : LSt := (List.range i).foldl (fun S j => S.upR (j + 1) fun _ => []) S
theorem empt_len {S : LSt} : ∀ {i : Nat}, (S.empt i).rows.length = S.rows.length
  | 0 => rfl
  | i + 1 => by
    unfold LSt.empt
    rw [List.range_succ, List.foldl_append]
    show (LSt.upR (S.empt i) (i + 1) _).rows.length = _
    rw [LSt.rows_upR]
    exact empt_len
theorem empt_succ {S : LSt} {i : Nat} : S.empt (i + 1) = (S.empt i).upR (i + 1) fun _ => [] := by
  unfold LSt.empt
  rw [List.range_succ, List.foldl_append]; rfl
theorem empt_row {S : LSt} {j : Nat} : ∀ {i : Nat}, (S.empt i).row j = if 1 ≤ j ∧ j ≤ i ∧ j < S.rows.length then [] else S.row j
  | 0 => by rw [if_neg (by omega)]; rfl
  | i + 1 => by
    rw [empt_succ, LSt.row_upR, empt_row (i := i), empt_len]
    by_cases h1 : i + 1 = j ∧ i + 1 < S.rows.length
    · rw [if_pos h1, if_pos (by omega)]
    · rw [if_neg h1]
      by_cases h2 : 1 ≤ j ∧ j ≤ i ∧ j < S.rows.length
      · rw [if_pos h2, if_pos (by omega)]
      · rw [if_neg h2, if_neg (by omega)]
theorem empt_rest {S : LSt} : ∀ {i : Nat}, (S.empt i).cards = S.cards ∧ (S.empt i).time = S.time
  | 0 => ⟨rfl, rfl⟩
  | i + 1 => by rw [empt_succ]; exact empt_rest (i := i)
theorem empt_all {S : LSt} (hn : 0 < S.rows.length) : S.empt (S.rows.length - 1) = S.reRows := by
  have e1 : (S.empt (S.rows.length - 1)).rows = S.reRows.rows := by
    apply List.ext_getElem?
    intro j
    by_cases hj : j < S.rows.length
    · rw [LSt.row_at (by rw [empt_len]; exact hj), LSt.row_at (by unfold LSt.reRows; simp; omega), empt_row]
      congr 1
      by_cases h0 : j = 0
      · subst h0; rw [if_neg (by omega)]; rfl
      · rw [if_pos (by omega)]
        obtain ⟨k, rfl⟩ : ∃ k, j = k + 1 := ⟨j - 1, by omega⟩
        show [] = (S.row 0 :: List.replicate (S.rows.length - 1) []).getD (k + 1) []
        rw [List.getD_cons_succ, List.getD_eq_getElem?_getD, List.getElem?_replicate, if_pos (by omega)]; rfl
    · rw [List.getElem?_eq_none (by rw [empt_len]; omega), List.getElem?_eq_none (by unfold LSt.reRows; simp; omega)]
  have e2 := empt_rest (S := S) (i := S.rows.length - 1)
  have : S.empt (S.rows.length - 1) = ⟨(S.empt (S.rows.length - 1)).cards, (S.empt (S.rows.length - 1)).rows, (S.empt (S.rows.length - 1)).time⟩ := rfl
  rw [this, e1, e2.1, e2.2]; rfl
theorem LS.out {kd : Kd} {U0 : Addr → Prop} {H0 H : Hp} {g : Geo} {S : LSt} {E : Addr} {o : HO} (L : LS kd U0 H0 g S H) (n : ¬ Foot g S E) (n0 : H0 E = none) : LS kd U0 H0 g S (upd H E o) := by
  refine ⟨L.lr.keep fun a ha => upd_ne fun z => n (z ▸ ha), ⟨fun b v e nb => upd_oth (L.st.1.1 b v e nb) fun z => ?_, fun b xs e => upd_oth (L.st.1.2 b xs e) fun z => ?_⟩, L.st.2⟩
  · rw [z, n0] at e; cases e
  · rw [z, n0] at e; cases e
theorem foot_live {g : Geo} {S S' : LSt} {b : Addr} (h : ∀ i, live S' i → live S i) (hb : Foot g S' b) : Foot g S b := by
  obtain ⟨i, hi, e⟩ := hb
  exact ⟨i, h i hi, e⟩
theorem w_seq {t1 t2 : TS} {D : Ends} {σ : St} {H : Hp} (N : St → Hp → Prop) (h2 : ∀ σ' H', N σ' H' → t2 D σ' H') (h1 : ∀ N' : St → Hp → Prop, (∀ σ' H', N σ' H' → N' σ' H') → t1 { D with nx := N' } σ H) : tSeq t1 t2 D σ H := h1 _ h2
theorem keys_ups {f : Card → Card} : ∀ {ks : List Int} {S : LSt}, (ks.foldl (fun S t => S.upC t f) S).cards.map Prod.fst = S.cards.map Prod.fst
  | [], _ => rfl
  | k :: r, S => by
    rw [List.foldl_cons, keys_ups (ks := r)]
    exact keys_up
theorem refs_at {g : Int → Addr} {cs : List (Int × Card)} {i : Nat} {k : Key} {x : V} (h : (refs g cs)[i]? = some (k, x)) : ∃ t, (cs.map Prod.fst)[i]? = some t ∧ x = .ref (g t) := by
  unfold refs at h
  rw [List.getElem?_map] at h
  cases e : cs[i]? with
  | none => rw [e] at h; cases h
  | some p =>
    rw [e] at h
    refine ⟨p.1, by rw [List.getElem?_map, e]; rfl, ?_⟩
    have := Option.some.inj h
    exact (Prod.mk.inj this).2.symm
end Qn

/-! S0: what stands in a heap, in parts that stand apart; what is known of it for good; walks over it. -/
namespace Qn
open PySem L2
def Apart (h1 h2 : Hp) : Prop := ∀ a, h1 a = none ∨ h2 a = none
def hnil : Hp := fun _ => none
/-- the one, else the other -/
def hor (h1 h2 : Hp) : Hp := fun a => match h1 a with
  | some o => some o
  | none => h2 a
/-- an assertion: of what is known for good, and of what is owned -/
structure As where
  p : Hp → Hp → Prop
  mono : ∀ {k k' h : Hp}, Same k k' → p k h → p k' h
abbrev Ty := V → As
def At (v : V) (X : Ty) : As := X v
def SatL : List As → Hp → Hp → Prop
  | [], _, _ => True
  | A :: P, k, h => ∃ h1 h2, Same h1 h ∧ Same h2 h ∧ Apart h1 h2 ∧ A.p k h1 ∧ SatL P k h2
def NoTup (h : Hp) : Prop := ∀ a xs, h a ≠ some (.tup xs)
def Sat (P : List As) (H : Hp) : Prop := ∃ k h, Same k H ∧ Same h H ∧ Apart k h ∧ NoTup h ∧ SatL P k h
def Ent (P : List As) (X : Hp → Prop) : Prop := ∀ H, Sat P H → X H
section
variable {P P' F G : List As} {A B : As} {H H' k k' h h' h1 h2 h3 : Hp} {X Y : Hp → Prop} {v : V} {a b : Addr} {o : HO}
theorem Apart.symm (x : Apart h1 h2) : Apart h2 h1 := fun a => (x a).symm
theorem Apart.sub (x : Apart h1 h2) (s1 : Same h h1) (s2 : Same h' h2) : Apart h h' := fun a => by
  rcases x a with e | e
  · exact .inl (s1.free e)
  · exact .inr (s2.free e)
theorem apart_nil : Apart hnil h := fun _ => .inl rfl
theorem same_nil : Same hnil h := fun _ _ e => by cases e
theorem hor_l (e : h1 a = some o) : hor h1 h2 a = some o := by unfold hor; rw [e]
theorem hor_r (e : h1 a = none) : hor h1 h2 a = h2 a := by unfold hor; rw [e]
theorem same_hor_l : Same h1 (hor h1 h2) := fun _ _ e => hor_l e
theorem same_hor_r (x : Apart h1 h2) : Same h2 (hor h1 h2) := fun b o e => by
  rcases x b with z | z
  · rw [hor_r z]; exact e
  · rw [z] at e; cases e
theorem hor_sub (s1 : Same h1 h) (s2 : Same h2 h) : Same (hor h1 h2) h := fun b o e => by
  cases z : h1 b with
  | some u => rw [hor_l z] at e; exact s1 b o (z.trans e)
  | none => rw [hor_r z] at e; exact s2 b o e
theorem hor_apart (s1 : Apart h1 h) (s2 : Apart h2 h) : Apart (hor h1 h2) h := fun b => by
  rcases s1 b with z | z
  · rcases s2 b with y | y
    · exact .inl (by rw [hor_r z]; exact y)
    · exact .inr y
  · exact .inr z
theorem SatL.up : ∀ {P : List As} {h h' : Hp}, SatL P k h → Same h h' → SatL P k h'
  | [], _, _, _, _ => trivial
  | _ :: _, _, _, ⟨h1, h2, s1, s2, x, y, z⟩, s => ⟨h1, h2, s1.trans s, s2.trans s, x, y, z⟩
theorem SatL.mono : ∀ {P : List As} {h : Hp}, SatL P k h → Same k k' → SatL P k' h
  | [], _, _, _ => trivial
  | A :: _, _, ⟨h1, h2, s1, s2, x, y, z⟩, s => ⟨h1, h2, s1, s2, x, A.mono s y, SatL.mono z s⟩
theorem SatL.swap (x : SatL (A :: B :: P) k h) : SatL (B :: A :: P) k h := by
  obtain ⟨h1, h2, s1, s2, x, y, h3, h4, s3, s4, x2, y2, z⟩ := x
  refine ⟨h3, hor h1 h4, s3.trans s2, hor_sub s1 (s4.trans s2), (hor_apart (x.sub (Same.refl _) s3) x2.symm).symm, y2, h1, h4, same_hor_l, same_hor_r (x.sub (Same.refl _) s4), x.sub (Same.refl _) s4, y, z⟩
theorem SatL.tail (x : SatL (A :: P) k h) : SatL P k h := by
  obtain ⟨h1, h2, s1, s2, x, y, z⟩ := x
  exact z.up s2
theorem SatL.cons (f : ∀ k h, SatL P k h → SatL P' k h) (x : SatL (A :: P) k h) : SatL (A :: P') k h := by
  obtain ⟨h1, h2, s1, s2, x, y, z⟩ := x
  exact ⟨h1, h2, s1, s2, x, y, f _ _ z⟩
/-! what is there, by a value -/
class Take (P : List As) (v : V) (X : outParam Ty) (F : outParam (List As)) : Prop where
  tk : ∀ k h, SatL P k h → SatL (At v X :: F) k h
class Pers (X : Ty) : Prop where
  pers : ∀ v k h, (X v).p k h → (X v).p k hnil
instance (priority := 900) take_here {X : Ty} : Take (At v X :: P) v X P := ⟨fun _ _ x => x⟩
instance (priority := 1000) take_pers {X : Ty} [Pers X] : Take (At v X :: P) v X (At v X :: P) := ⟨fun k h x => by
  have x' := x
  obtain ⟨h1, h2, s1, s2, q, y, z⟩ := x
  exact ⟨hnil, h, same_nil, Same.refl _, apart_nil, Pers.pers _ _ _ y, x'⟩⟩
instance (priority := 100) take_skip {X : Ty} [t : Take P v X F] : Take (A :: P) v X (A :: F) := ⟨fun _ _ x => (SatL.cons t.tk x).swap⟩
theorem NoTup.sub (n : NoTup h) (s : Same h' h) : NoTup h' := fun a xs e => n a xs (s _ _ e)
theorem noTup_nil : NoTup hnil := fun a xs e => by cases e
theorem noTup_one {p : Addr} (n : ∀ xs, o ≠ .tup xs) : NoTup (upd hnil p o) := fun b xs e => by
  by_cases z : b = p
  · rw [z, upd_same] at e; exact n xs (Option.some.inj e)
  · rw [upd_ne z] at e; cases e
theorem noTup_hor (n : NoTup h1) (m : NoTup h2) : NoTup (hor h1 h2) := fun b xs e => by
  cases z : h1 b with
  | some u => rw [hor_l z] at e; exact n b xs (z.trans e)
  | none => rw [hor_r z] at e; exact m b xs e
theorem Sat.imp (f : ∀ k h, SatL P k h → SatL P' k h) (s : Sat P H) : Sat P' H := by
  obtain ⟨k, h, s1, s2, x, nt, y⟩ := s
  exact ⟨k, h, s1, s2, x, nt, f _ _ y⟩
theorem Sat.take {X : Ty} [t : Take P v X F] (s : Sat P H) : Sat (At v X :: F) H := s.imp t.tk
theorem Ent.at (s : Sat P H) (e : Ent P X) : X H := e H s
theorem Ent.atG {i : Nat} {u : V} {σ : L2.St} {S : L2.St → Hp → Prop} (s : Sat P H) (e : Ent P (fun H => gName i u σ H S)) : gName i u σ H S := e H s
theorem Ent.mono (e : Ent P' X) (f : ∀ k h, SatL P k h → SatL P' k h) : Ent P X := fun H s => e H (s.imp f)
/-- one from the other -/
class Imp (P Q : List As) : Prop where
  imp : ∀ k h, SatL P k h → SatL Q k h
instance (priority := 1100) imp_refl : Imp P P := ⟨fun _ _ x => x⟩
instance (priority := 1000) imp_nil : Imp P [] := ⟨fun _ _ _ => trivial⟩
instance (priority := 900) imp_at {X : Ty} [t : Take P v X F] [i : Imp F G] : Imp P (At v X :: G) := ⟨fun k h x => SatL.cons i.imp (t.tk k h x)⟩
instance (priority := 100) imp_drop [i : Imp P G] : Imp (A :: P) G := ⟨fun k h x => i.imp k h x.tail⟩
theorem Ent.to {Q : List As} [i : Imp P Q] (e : Ent Q X) : Ent P X := e.mono i.imp
theorem Sat.to {Q : List As} [i : Imp P Q] (s : Sat P H) : Sat Q H := s.imp i.imp
/-- a part changes, the rest stands -/
theorem Sat.part (s : Sat (A :: F) H) : ∃ k h, Same k H ∧ Same h H ∧ Apart k h ∧ NoTup h ∧ A.p k h ∧
    ∀ (B : List As) (H' k' h' : Hp), Same k k' → Same k' H' → Same h' H' → Apart k' h' → NoTup h' → SatL B k' h' → (∀ b o, H b = some o → h b = none → H' b = some o) →
      (∀ b, k' b ≠ none → h b ≠ none ∨ k b ≠ none ∨ H b = none ∨ ∃ xs, k' b = some (.tup xs)) → (∀ b, h' b ≠ none → h b ≠ none ∨ H b = none) → Sat (B ++ F) H' := by
  obtain ⟨k, h, s1, s2, x, nt, hA, hF, sA, sF, y, pA, pF⟩ := s
  refine ⟨k, hA, s1, sA.trans s2, x.sub (Same.refl _) sA, nt.sub sA, pA, fun B H' k' h' kk k1 k2 k3 n3 pB out newk newh => ?_⟩
  have sF' : Same hF H' := fun b o e => out b o (s2 _ _ (sF _ _ e)) ((y b).resolve_right (by rw [e]; simp))
  have apk : ∀ b, k' b ≠ none → hF b = none := fun b hb => by
    rcases newk b hb with z | z | z | ⟨xs, z⟩
    · exact (y b).resolve_left z
    · exact sF.free ((x b).resolve_left z)
    · exact (sF.trans s2).free z
    · cases e : hF b with
      | none => rfl
      | some o =>
        have e1 := sF' _ _ e
        rw [k1 _ _ z] at e1
        exact absurd (sF _ _ e) (by rw [← Option.some.inj e1]; exact nt b xs)
  have aph : ∀ b, h' b ≠ none → hF b = none := fun b hb => by
    rcases newh b hb with z | z
    · exact (y b).resolve_left z
    · exact (sF.trans s2).free z
  have ah : Apart h' hF := fun b => by
    cases e : h' b with
    | none => exact .inl rfl
    | some o => exact .inr (aph b (by rw [e]; simp))
  have ak : Apart k' hF := fun b => by
    cases e : k' b with
    | none => exact .inl rfl
    | some o => exact .inr (apk b (by rw [e]; simp))
  refine ⟨k', hor h' hF, k1, hor_sub k2 sF', (hor_apart k3.symm ak.symm).symm, noTup_hor n3 (nt.sub sF), ?_⟩
  have : ∀ (B : List As) (h' : Hp), SatL B k' h' → Apart h' hF → SatL (B ++ F) k' (hor h' hF) := by
    intro B
    induction B with
    | nil => intro h' _ a; exact (pF.mono kk).up (same_hor_r a)
    | cons C B ih =>
      rintro h' ⟨h1, h2, t1, t2, ax, p1, p2⟩ a
      have a2 := a.sub t2 (Same.refl _)
      refine ⟨h1, hor h2 hF, fun b o e => hor_l (t1 _ _ e), hor_sub (fun b o e => hor_l (t2 _ _ e)) (same_hor_r a), (hor_apart ax.symm (a.sub t1 (Same.refl _)).symm).symm, p1, ih h2 p2 a2⟩
  exact this B h' pB ah
/-- tuples that stand in the heap may be known -/
theorem Sat.learn {k2 : Hp} (s : Sat P H) (s2 : Same k2 H) (t2 : ∀ b, k2 b ≠ none → ∃ xs, k2 b = some (.tup xs)) (hA : A.p k2 hnil) : Sat (A :: P) H := by
  obtain ⟨k, h, s1, s3, x, nt, y⟩ := s
  have sk : Same k (hor k k2) := same_hor_l
  have s2' : Same k2 (hor k k2) := fun b o e => by
    cases z : k b with
    | none => rw [hor_r z]; exact e
    | some u =>
      have e1 := s1 _ _ z
      rw [s2 _ _ e] at e1
      rw [hor_l z, e1]
  have a2 : Apart k2 h := fun b => by
    cases e : k2 b with
    | none => exact .inl rfl
    | some o =>
      refine .inr ?_
      obtain ⟨xs, z⟩ := t2 b (by rw [e]; simp)
      cases q : h b with
      | none => rfl
      | some u =>
        have e1 := s3 _ _ q
        rw [s2 _ _ z] at e1
        exact absurd q (by rw [← Option.some.inj e1]; exact nt b xs)
  exact ⟨hor k k2, h, hor_sub s1 s2, s3, hor_apart x a2, nt, hnil, h, same_nil, Same.refl _, apart_nil, A.mono s2' hA, y.mono sk⟩
/-- what is new stands beside -/
theorem Sat.new {p : Addr} (s : Sat P H) (n : H p = none) (hA : A.p hnil (upd hnil p o)) (no : ∀ xs, o ≠ .tup xs) : Sat (A :: P) (upd H p o) := by
  obtain ⟨k, h, s1, s2, x, nt, y⟩ := s
  have nk := s1.free n
  have nh := s2.free n
  have sH : Same H (upd H p o) := Same.upd n
  have sp : Same (upd hnil p o) (upd H p o) := fun b u e => by
    by_cases z : b = p
    · subst z; rw [upd_same] at e ⊢; exact e
    · rw [upd_ne z] at e; cases e
  have ap : ∀ {g : Hp}, g p = none → Apart g (upd hnil p o) := fun {g} e b => by
    by_cases z : b = p
    · subst z; exact .inl e
    · exact .inr (by rw [upd_ne z]; rfl)
  exact ⟨k, hor (upd hnil p o) h, s1.trans sH, hor_sub sp (s2.trans sH), (hor_apart (ap nk).symm x.symm).symm, noTup_hor (noTup_one no) nt, upd hnil p o, h, same_hor_l, same_hor_r (ap nh).symm, (ap nh).symm, A.mono same_nil hA, y⟩
/-- what is new is known for good -/
theorem Sat.newK {p : Addr} (s : Sat P H) (n : H p = none) (hA : A.p (upd hnil p o) hnil) : Sat (A :: P) (upd H p o) := by
  obtain ⟨k, h, s1, s2, x, nt, y⟩ := s
  have nk := s1.free n
  have nh := s2.free n
  have sH : Same H (upd H p o) := Same.upd n
  have sp : Same (upd hnil p o) (upd H p o) := fun b u e => by
    by_cases z : b = p
    · subst z; rw [upd_same] at e ⊢; exact e
    · rw [upd_ne z] at e; cases e
  have ap : ∀ {g : Hp}, g p = none → Apart g (upd hnil p o) := fun {g} e b => by
    by_cases z : b = p
    · subst z; exact .inl e
    · exact .inr (by rw [upd_ne z]; rfl)
  have sk : Same k (hor k (upd hnil p o)) := same_hor_l
  exact ⟨hor k (upd hnil p o), h, hor_sub (s1.trans sH) sp, s2.trans sH, hor_apart x (ap nh).symm, nt, hnil, h, same_nil, Same.refl _, apart_nil, A.mono (same_hor_r (ap nk)) hA, y.mono sk⟩
theorem Sat.same (s : Sat P H) (z : Same H H') : Sat P H' := by
  obtain ⟨k, h, s1, s2, x, nt, y⟩ := s
  exact ⟨k, h, s1.trans z, s2.trans z, x, nt, y⟩
end
/-! ### steps -/
class Stp (P : List As) (X : Hp → Prop) (P' : outParam (List As)) (Y : outParam (Hp → Prop)) : Prop where
  by_ : Ent P' Y → Ent P X
theorem stp {P : List As} {X : Hp → Prop} {P' : List As} {Y : Hp → Prop} [s : Stp P X P' Y] (e : Ent P' Y) : Ent P X := s.by_ e
instance (priority := 100) stp_rd {P : List As} {X Y : Hp → Prop} [h : ∀ H, Rd (X H) (Y H)] : Stp P X P Y := ⟨fun e H s => (h H).by_ (e H s)⟩
/-! ### kinds of things -/
/-- one owned cell -/
def Cel (o : HO) : Ty := fun v => ⟨fun _ h => ∃ p, v = .ref p ∧ h p = some o, fun _ x => x⟩
/-- one cell known for good -/
def Kel (o : HO) : Ty := fun v => ⟨fun k _ => ∃ p, v = .ref p ∧ k p = some o, fun s ⟨p, e, x⟩ => ⟨p, e, s _ _ x⟩⟩
abbrev LstX (xs : List V) : Ty := Cel (.lst xs)
abbrev DctX (kvs : List (Key × V)) : Ty := Cel (.dK kvs)
abbrev KLst (xs : List V) : Ty := Kel (.lst xs)
abbrev KTup (xs : List V) : Ty := Kel (.tup xs)
instance pers_kel {o : HO} : Pers (Kel o) := ⟨fun _ _ _ x => x⟩
theorem sqL_sub {K : PySem.W.Frag} {H H' : Hp} {a : Addr} {xs : List V} (h : SqL K H a xs) (s : Same H H') : SqL K H' a xs := by
  rcases h with (h | ⟨o, h⟩) | h
  · exact .inl (.inl (s _ _ h))
  · exact .inl (.inr ⟨o, s _ _ h⟩)
  · exact .inr h
theorem sqT_sub {K : PySem.W.Frag} {H H' : Hp} {a : Addr} {xs : List V} (h : SqT K H a xs) (s : Same H H') : SqT K H' a xs := by
  rcases h with (h | ⟨o, h⟩) | h
  · exact .inl (.inl (s _ _ h))
  · exact .inl (.inr ⟨o, s _ _ h⟩)
  · exact .inr h
mutual
theorem dp_sub {K : PySem.W.Frag} {H H' : Hp} (s : Same H H') : ∀ {v : V} {d : PyData}, Dp K H v d → Dp K H' v d
  | _, _, .non => .non
  | _, _, .bl b => .bl b
  | _, _, .int i => .int i
  | _, _, .str x => .str x
  | _, _, .lst h r => .lst (sqL_sub h s) (dpAll_sub s r)
  | _, _, .tup h r => .tup (sqT_sub h s) (dpAll_sub s r)
theorem dpAll_sub {K : PySem.W.Frag} {H H' : Hp} (s : Same H H') : ∀ {v : List V} {d : List PyData}, DpAll K H v d → DpAll K H' v d
  | _, _, .nil => .nil
  | _, _, .cons h r => .cons (dp_sub s h) (dpAll_sub s r)
end
/-- data, known for good -/
def Dat (K : PySem.W.Frag) (d : PyData) : Ty := fun v => ⟨fun k _ => Dp K k v d, fun s x => dp_sub s x⟩
end Qn

/-! S1: the rules of readings over parts. -/
namespace Qn
open PySem L2
/-- one cell -/
class Lk (X : Ty) (o : outParam HO) : Prop where
  lk : ∀ v k h, (X v).p k h → ∃ p, v = .ref p ∧ (h p = some o ∨ k p = some o)
instance lk_cel {o : HO} : Lk (Cel o) o := ⟨fun _ _ _ ⟨p, e, x⟩ => ⟨p, e, .inl x⟩⟩
instance lk_kel {o : HO} : Lk (Kel o) o := ⟨fun _ _ _ ⟨p, e, x⟩ => ⟨p, e, .inr x⟩⟩
class Sees (P : List As) (p : Addr) (o : outParam HO) : Prop where
  sees : ∀ H, Sat P H → H p = some o
theorem Sat.sees {F : List As} {X : Ty} {p : Addr} {o : HO} {H : Hp} [l : Lk X o] (s : Sat (At (.ref p) X :: F) H) : H p = some o := by
  obtain ⟨k, h, s1, s2, x, nt, h1, h2, t1, t2, y, pA, pF⟩ := s
  obtain ⟨q, e, z⟩ := l.lk _ _ _ pA
  cases e
  rcases z with z | z
  · exact s2 _ _ (t1 _ _ z)
  · exact s1 _ _ z
instance sees_take {P F : List As} {X : Ty} {p : Addr} {o : HO} [t : Take P (.ref p) X F] [l : Lk X o] : Sees P p o := ⟨fun H s => Sat.sees (X := X) (F := F) (Sat.take s)⟩
class IxAt (xs : List V) (i : Int) (v : outParam V) : Prop where
  eq : atI xs i = some v
section
variable {x0 x1 x2 x3 x4 : V} {r : List V}
instance ix0 : IxAt (x0 :: r) 0 x0 := ⟨at_0⟩
instance ix1 : IxAt (x0 :: x1 :: r) 1 x1 := ⟨at_1⟩
instance ix2 : IxAt (x0 :: x1 :: x2 :: r) 2 x2 := ⟨at_2⟩
instance ix3 : IxAt (x0 :: x1 :: x2 :: x3 :: r) 3 x3 := ⟨at_3⟩
instance ix4 : IxAt (x0 :: x1 :: x2 :: x3 :: x4 :: r) 4 x4 := ⟨at_4⟩
end
section
variable {P P' F G : List As} {K : PySem.W.Frag} {σ τ : St} {Q : VK} {R : Hp → Prop} {S : St → Hp → Prop} {D : Ends} {x y z v : V} {i j : Int} {a p q C dx : Addr} {f m : Str} {xs ys : List V} {n : Nat} {b c : Bool} {A B : Hp → Prop} {o o' : HO} {kvs : List (Key × V)} {fs : List (Str × V)} {u : TGs} {ns : List Int}
/-! choices -/
theorem e_if (h1 : b = true → Ent P A) (h2 : b = false → Ent P B) : Ent P (fun H => kIf b (A H) (B H)) := by
  cases b with
  | true => exact fun H s => h1 rfl H s
  | false => exact fun H s => h2 rfl H s
theorem e_ifD {p : Prop} [Decidable p] (h1 : p → Ent P A) (h2 : ¬ p → Ent P B) : Ent P (fun H => kIf (decide p) (A H) (B H)) :=
  e_if (fun h => h1 (of_decide_eq_true h)) fun h => h2 (of_decide_eq_false h)
theorem e_ifN {p : Prop} [Decidable p] (h1 : ¬ p → Ent P A) (h2 : p → Ent P B) : Ent P (fun H => kIf (!decide p) (A H) (B H)) :=
  e_if (fun h => h1 (by simpa using h)) fun h => h2 (by simpa using h)
theorem e_ifE (h2 : Ent P B) (h1 : b = true → Ent P B → Ent P A) : Ent P (fun H => kIf b (A H) (B H)) := e_if (fun h => h1 h h2) fun _ => h2
theorem e_ifED {p : Prop} [Decidable p] (h2 : Ent P B) (h1 : p → Ent P B → Ent P A) : Ent P (fun H => kIf (decide p) (A H) (B H)) := e_ifE h2 fun h => h1 (of_decide_eq_true h)
theorem e_ifEN {p : Prop} [Decidable p] (h2 : Ent P B) (h1 : ¬ p → Ent P B → Ent P A) : Ent P (fun H => kIf (!decide p) (A H) (B H)) := e_ifE h2 fun h => h1 (by simpa using h)
theorem e_T (h : b = true) (e : Ent P A) : Ent P (fun H => kIf b (A H) (B H)) := by subst h; exact e
theorem e_F (h : b = false) (e : Ent P B) : Ent P (fun H => kIf b (A H) (B H)) := by subst h; exact e
theorem e_TD {p : Prop} [Decidable p] (h : p) (e : Ent P A) : Ent P (fun H => kIf (decide p) (A H) (B H)) := e_T (decide_eq_true h) e
theorem e_FD {p : Prop} [Decidable p] (h : ¬ p) (e : Ent P B) : Ent P (fun H => kIf (decide p) (A H) (B H)) := e_F (decide_eq_false h) e
theorem e_TN {p : Prop} [Decidable p] (h : ¬ p) (e : Ent P A) : Ent P (fun H => kIf (!decide p) (A H) (B H)) := e_T (by rw [decide_eq_false h]; rfl) e
theorem e_FN {p : Prop} [Decidable p] (h : p) (e : Ent P B) : Ent P (fun H => kIf (!decide p) (A H) (B H)) := e_F (by rw [decide_eq_true h]; rfl) e
/-! reading -/
theorem e_see (h : ∀ H, Sat P H → A H) : Ent P A := h
theorem e_ixL [s : Sees P p (.lst xs)] (e : atI xs i = some v) (k : Ent P (fun H => Q v H)) : Ent P (fun H => rIxL K (.ref p) (.int i) H Q) := fun H h => r_ixL (SqL.of (s.sees H h)) e (k H h)
theorem e_ixT [s : Sees P p (.tup xs)] (e : atI xs i = some v) (k : Ent P (fun H => Q v H)) : Ent P (fun H => rIxT K (.ref p) (.int i) H Q) := fun H h => r_ixT (SqT.of (s.sees H h)) e (k H h)
instance sp_ixL [s : Sees P p (.lst xs)] [e : IxAt xs i v] : Stp P (fun H => rIxL K (.ref p) (.int i) H Q) P (fun H => Q v H) := ⟨e_ixL e.eq⟩
instance sp_ixT [s : Sees P p (.tup xs)] [e : IxAt xs i v] : Stp P (fun H => rIxT K (.ref p) (.int i) H Q) P (fun H => Q v H) := ⟨e_ixT e.eq⟩
instance sp_lenL [s : Sees P p (.lst xs)] : Stp P (fun H => cLen K [.ref p] H Q) P (fun H => Q (.int xs.length) H) := ⟨fun k H h => r_lenL (SqL.of (s.sees H h)) (k H h)⟩
instance (priority := 900) sp_lenT [s : Sees P p (.tup xs)] : Stp P (fun H => cLen K [.ref p] H Q) P (fun H => Q (.int xs.length) H) := ⟨fun k H h => r_lenT (SqT.of (s.sees H h)) (k H h)⟩
instance sp_lenD [s : Sees P p (.dK kvs)] : Stp P (fun H => cLenD [.ref p] H Q) P (fun H => Q (.int kvs.length) H) := ⟨fun k H h => r_lenD (s.sees H h) (k H h)⟩
instance sp_kIL {R : It → Hp → Prop} [s : Sees P p (.lst xs)] : Stp P (fun H => kIL K (.ref p) H R) P (fun H => R (Itl K p) H) := ⟨fun k H h => r_kIL (SqL.of (s.sees H h)) (k H h)⟩
instance sp_kIT {R : It → Hp → Prop} [s : Sees P p (.tup xs)] : Stp P (fun H => kIT K (.ref p) H R) P (fun H => R (Itt K p) H) := ⟨fun k H h => r_kIT (SqT.of (s.sees H h)) (k H h)⟩
instance sp_kIE {R : It → Hp → Prop} [s : Sees P p (.tup xs)] : Stp P (fun H => kIE K [.ref p] H R) P (fun H => R (ItT K p) H) := ⟨fun k H h => r_kIE (SqT.of (s.sees H h)) (k H h)⟩
theorem e_unT [s : Sees P p (.tup xs)] (e : xs.length = n) (k : Ent P (fun H => u xs σ H S)) : Ent P (fun H => kUnT K n u (.ref p) σ H S) := fun H h => r_kUnT (SqT.of (s.sees H h)) e (k H h)
instance sp_unT1 [s : Sees P p (.tup [x])] : Stp P (fun H => kUnT K 1 u (.ref p) σ H S) P (fun H => u [x] σ H S) := ⟨e_unT rfl⟩
instance sp_unT2 [s : Sees P p (.tup [x, y])] : Stp P (fun H => kUnT K 2 u (.ref p) σ H S) P (fun H => u [x, y] σ H S) := ⟨e_unT rfl⟩
instance sp_unT3 [s : Sees P p (.tup [x, y, z])] : Stp P (fun H => kUnT K 3 u (.ref p) σ H S) P (fun H => u [x, y, z] σ H S) := ⟨e_unT rfl⟩
instance sp_unT4 [s : Sees P p (.tup [x, y, z, v])] : Stp P (fun H => kUnT K 4 u (.ref p) σ H S) P (fun H => u [x, y, z, v] σ H S) := ⟨e_unT rfl⟩
instance sp_BML {r : V → List V → Hp → VK → Prop} {t : TA} [s : Sees P p (.lst xs)] : Stp P (fun H => kBM K "list" r σ t (.ref p) H Q) P (fun H => t σ H fun ys H2 => r (.ref p) ys H2 Q) := ⟨fun k H h => r_kBML (SqL.of (s.sees H h)) (k H h)⟩
instance sp_BMD {r : V → List V → Hp → VK → Prop} {t : TA} [s : Sees P p (.dK kvs)] : Stp P (fun H => kBM K "dict" r σ t (.ref p) H Q) P (fun H => t σ H fun ys H2 => r (.ref p) ys H2 Q) := ⟨fun k H h => r_kBMD (s.sees H h) (k H h)⟩
theorem e_dgetI [s : Sees P p (.dK kvs)] (e : valV kvs (.inl i) = some v) (k : Ent P (fun H => Q v H)) : Ent P (fun H => kDGet (.ref p) (.int i) H Q) := fun H h => r_kDGetI (s.sees H h) e (k H h)
instance sp_dinI [s : Sees P p (.dK kvs)] : Stp P (fun H => kDIn (.ref p) (.int i) H Q) P (fun H => Q (.bl (valV kvs (.inl i)).isSome) H) := ⟨fun k H h => r_kDInI (s.sees H h) (k H h)⟩
instance sp_dninI [s : Sees P p (.dK kvs)] : Stp P (fun H => kDNotIn (.ref p) (.int i) H Q) P (fun H => Q (.bl (!(valV kvs (.inl i)).isSome)) H) := ⟨fun k H h => r_kDNotInI (s.sees H h) (k H h)⟩
theorem e_range1 {R : It → Hp → Prop} (h : -1000000 ≤ j ∧ j ≤ 1000000) (k : Ent P (fun H => R (Itr 0 j.toNat) H)) : Ent P (fun H => kIR1 [.int j] H R) := fun H s => r_kIR1 h (k H s)
theorem e_range2 {R : It → Hp → Prop} (h : (-1000000 ≤ i ∧ i ≤ 1000000) ∧ -1000000 ≤ j ∧ j ≤ 1000000) (k : Ent P (fun H => R (Itr i (j - i).toNat) H)) : Ent P (fun H => kIR2 [.int i, .int j] H R) := fun H s => r_kIR2 h (k H s)
/-- numbers in a list -/
theorem inV_ints : inV (.int i) (ns.map V.int) = decide (i ∈ ns) := by
  induction ns with
  | nil => rfl
  | cons n r ih =>
    have e : inV (.int i) (V.int n :: r.map V.int) = (eqV (.int n) (.int i) || inV (.int i) (r.map V.int)) := by
      unfold inV; rw [List.any_cons]
    have e2 : eqV (.int n) (.int i) = decide (i = n) := by
      by_cases q : i = n
      · subst q; simp [eqV]
      · have q' : ¬ n = i := fun z => q z.symm
        simp [eqV, q, q']
    rw [List.map_cons, e, ih, e2]
    by_cases q : i = n <;> simp [q]
theorem flat_ints : (ns.map V.int).all flatV = true := by
  rw [List.all_eq_true]
  intro x hx
  obtain ⟨n, _, rfl⟩ := List.mem_map.mp hx
  rfl
instance sp_inI [s : Sees P p (.lst (ns.map V.int))] : Stp P (fun H => rIn K false (.int i) (.ref p) H Q) P (fun H => Q (.bl (decide (i ∈ ns))) H) :=
  ⟨fun k H h => r_in (.inl (SqL.of (s.sees H h))) rfl flat_ints (by rw [inV_ints]; exact k H h)⟩
instance sp_ninI [s : Sees P p (.lst (ns.map V.int))] : Stp P (fun H => rIn K true (.int i) (.ref p) H Q) P (fun H => Q (.bl (!decide (i ∈ ns))) H) :=
  ⟨fun k H h => r_in (.inl (SqL.of (s.sees H h))) rfl flat_ints (by rw [inV_ints]; exact k H h)⟩
theorem e_mod (h : 0 < j) (k : Ent P (fun H => Q (.int (i % j)) H)) : Ent P (fun H => oMod (.int i) (.int j) H Q) := fun H s => r_mod h (k H s)
theorem e_div (h : CDivW i j) (k : Ent P (fun H => Q (.int (i / j)) H)) : Ent P (fun H => oDivW (.int i) (.int j) H Q) := fun H s => r_div h (k H s)
theorem e_mul (h : IntMulOk i j) (k : Ent P (fun H => Q (.int (i * j)) H)) : Ent P (fun H => oMul (.int i) (.int j) H Q) := fun H s => r_mul h (k H s)
/-! new things -/
theorem e_tup (h : xs.length ≤ 1000) (k : ∀ p, Ent (At (.ref p) (KTup xs) :: P) (fun H => Q (.ref p) H)) : Ent P (fun H => kTup xs H Q) :=
  fun H s => r_kTup h fun p np => k p _ (s.newK np ⟨p, rfl, upd_same⟩)
theorem e_lst (h : xs.length ≤ 1000) (k : ∀ p, Ent (At (.ref p) (LstX xs) :: P) (fun H => Q (.ref p) H)) : Ent P (fun H => kLst xs H Q) :=
  fun H s => r_kLst h fun p np => k p _ (s.new np ⟨p, rfl, upd_same⟩ fun _ e => by cases e)
instance sp_tup0 : Stp P (fun H => tTup0 σ H Q) P (fun H => ∀ p, H p = none → Q (.ref p) (upd H p (.tup []))) := ⟨fun e => e⟩
theorem e_tup0 (k : ∀ p, Ent (At (.ref p) (KTup []) :: P) (fun H => Q (.ref p) H)) : Ent P (fun H => tTup0 σ H Q) := fun H s p np => k p _ (s.newK np ⟨p, rfl, upd_same⟩)
theorem e_dnew (k : ∀ p, Ent (At (.ref p) (DctX []) :: P) (fun H => Q (.ref p) H)) : Ent P (fun H => tDNewK σ H Q) := fun H s p np => k p _ (s.new np ⟨p, rfl, upd_same⟩ fun _ e => by cases e)
theorem e_list [s : Sees P p (.lst xs)] (k : ∀ q, Ent (At (.ref q) (LstX xs) :: P) (fun H => Q (.ref q) H)) : Ent P (fun H => cLst K [.ref p] H Q) :=
  fun H h => r_listL (SqL.of (s.sees H h)) fun l nl => k l _ (h.new nl ⟨l, rfl, upd_same⟩ fun _ e => by cases e)
theorem e_listT [s : Sees P p (.tup xs)] (k : ∀ q, Ent (At (.ref q) (LstX xs) :: P) (fun H => Q (.ref q) H)) : Ent P (fun H => cLst K [.ref p] H Q) :=
  fun H h => r_listT (SqT.of (s.sees H h)) fun l nl => k l _ (h.new nl ⟨l, rfl, upd_same⟩ fun _ e => by cases e)
theorem e_tuple [s : Sees P p (.lst xs)] (k : ∀ q, Ent (At (.ref q) (KTup xs) :: P) (fun H => Q (.ref q) H)) : Ent P (fun H => cTup K [.ref p] H Q) :=
  fun H h => r_tupleL (SqL.of (s.sees H h)) fun l nl => k l _ (h.newK nl ⟨l, rfl, upd_same⟩)
theorem e_slL {lo hi : Option Int} [s : Sees P p (.lst xs)] (k : ∀ q, Ent (At (.ref q) (LstX (cutV xs lo hi)) :: P) (fun H => Q (.ref q) H)) : Ent P (fun H => rSlL K (.ref p) lo hi H Q) :=
  fun H h => r_slL (SqL.of (s.sees H h)) fun l nl => k l _ (h.new nl ⟨l, rfl, upd_same⟩ fun _ e => by cases e)
theorem e_cat [s : Sees P p (.lst xs)] [s2 : Sees P q (.lst ys)] (hz : xs.length + ys.length ≤ 100000) (k : ∀ l, Ent (At (.ref l) (LstX (xs ++ ys)) :: P) (fun H => Q (.ref l) H)) : Ent P (fun H => rCat (.ref p) (.ref q) H Q) :=
  fun H h => r_cat (s.sees H h) (s2.sees H h) hz fun l nl => k l _ (h.new nl ⟨l, rfl, upd_same⟩ fun _ e => by cases e)
theorem e_rep1 {n : Nat} [s : Sees P p (.lst [v])] (hn : n ≤ 100000) (k : ∀ l, Ent (At (.ref l) (LstX (List.replicate n v)) :: P) (fun H => Q (.ref l) H)) : Ent P (fun H => rRep (.ref p) (.int n) H Q) :=
  fun H h => r_rep1 (s.sees H h) hn fun l nl => k l _ (h.new nl ⟨l, rfl, upd_same⟩ fun _ e => by cases e)
/-! changes -/
theorem Sat.set {H : Hp} {o : HO} (s : Sat (At (.ref p) (Cel o) :: F) H) (o' : HO) (no : ∀ xs, o' ≠ .tup xs) : Sat (At (.ref p) (Cel o') :: F) (upd H p o') := by
  obtain ⟨k, h, s1, s2, ap, nt, ⟨q, e, hp⟩, cl⟩ := s.part
  cases e
  have nk : k p = none := (ap p).resolve_right (by rw [hp]; simp)
  refine cl [At (.ref p) (Cel o')] (upd H p o') k (upd hnil p o') (Same.refl _) (fun b u e => ?_) (fun b u e => ?_) (fun b => ?_) (noTup_one no) ⟨upd hnil p o', hnil, Same.refl _, same_nil, fun b => .inr rfl, ⟨p, rfl, upd_same⟩, trivial⟩ (fun b u e n => ?_) (fun b n => .inr (.inl n)) (fun b n => ?_)
  · exact upd_oth (s1 _ _ e) fun z => by rw [z, nk] at e; cases e
  · by_cases z : b = p
    · subst z; rw [upd_same] at e ⊢; exact e
    · rw [upd_ne z] at e; cases e
  · by_cases z : b = p
    · subst z; exact .inl nk
    · exact .inr (by rw [upd_ne z]; rfl)
  · exact upd_oth e fun z => by rw [z, hp] at n; cases n
  · by_cases z : b = p
    · subst z; exact .inl (by rw [hp]; simp)
    · rw [upd_ne z] at n; exact absurd rfl n
theorem e_set {Y : Hp → Prop} {o' : HO} (t : Take P (.ref p) (Cel o) F) (no : ∀ xs, o' ≠ .tup xs) (k : Ent (At (.ref p) (Cel o') :: F) Y) : Ent P (fun H => Y (upd H p o')) := fun H s => k _ ((s.imp t.tk).set o' no)
theorem e_append [t : Take P (.ref p) (LstX xs) F] (hz : xs.length < 100000) (k : Ent (At (.ref p) (LstX (xs ++ [v])) :: F) (fun H => Q .non H)) : Ent P (fun H => rAppend (.ref p) [v] H Q) :=
  fun H s => r_append (Sat.sees (F := F) (s.imp t.tk)) hz (e_set t (fun _ e => by cases e) k H s)
theorem e_clear [t : Take P (.ref p) (LstX xs) F] (k : Ent (At (.ref p) (LstX []) :: F) (fun H => Q .non H)) : Ent P (fun H => rClear (.ref p) [] H Q) :=
  fun H s => r_clear (Sat.sees (F := F) (s.imp t.tk)) (e_set t (fun _ e => by cases e) k H s)
theorem e_extend [t : Take P (.ref p) (LstX xs) F] [s2 : Sees P q (.lst ys)] (hz : xs.length + ys.length ≤ 100000) (k : Ent (At (.ref p) (LstX (xs ++ ys)) :: F) (fun H => Q .non H)) : Ent P (fun H => rExtend (.ref p) [.ref q] H Q) :=
  fun H s => r_extend (Sat.sees (F := F) (s.imp t.tk)) (s2.sees H s) hz (e_set t (fun _ e => by cases e) k H s)
theorem e_setL [t : Take P (.ref p) (LstX xs) F] (e : ixN xs.length i = some n) (k : Ent (At (.ref p) (LstX (xs.set n v)) :: F) R) : Ent P (fun H => rSetL (.ref p) (.int i) v H R) :=
  fun H s => r_setL (Sat.sees (F := F) (s.imp t.tk)) e (e_set t (fun _ e => by cases e) k H s)
theorem e_popAt [t : Take P (.ref p) (LstX xs) F] (hi : -1000000 ≤ i ∧ i ≤ 1000000) (e : seqIndex? i xs.length = some n) (hx : xs[n]? = some v) (k : Ent (At (.ref p) (LstX (xs.eraseIdx n)) :: F) (fun H => Q v H)) : Ent P (fun H => rPopAt (.ref p) [.int i] H Q) :=
  fun H s => ⟨p, xs, i, n, v, rfl, rfl, Sat.sees (F := F) (s.imp t.tk), by omega, by omega, e, hx, e_set t (fun _ e => by cases e) k H s⟩
theorem e_remove [t : Take P (.ref p) (LstX (ns.map V.int)) F] (h : i ∈ ns) (k : Ent (At (.ref p) (LstX ((ns.erase i).map V.int)) :: F) (fun H => Q .non H)) : Ent P (fun H => rRemI (.ref p) [.int i] H Q) := fun H s => by
  obtain ⟨j, h1, h2, h3⟩ := first_idx h
  exact ⟨p, ns, i, j, rfl, rfl, Sat.sees (F := F) (s.imp t.tk), h1, h2, by rw [h3]; exact e_set t (fun _ e => by cases e) k H s⟩
theorem e_dputI [t : Take P (.ref p) (DctX kvs) F] (hl : kvs.length < 100000) (k : Ent (At (.ref p) (DctX (putK kvs (.inl i) v)) :: F) R) : Ent P (fun H => kDPut v (.ref p) (.int i) H R) :=
  fun H s => r_kDPutI (Sat.sees (F := F) (s.imp t.tk)) hl (e_set t (fun _ e => by cases e) k H s)
/-- known for good from now on -/
theorem e_frz [t : Take P (.ref p) (Cel o) F] {X : Hp → Prop} (k : Ent (At (.ref p) (Kel o) :: F) X) : Ent P X := fun H s => by
  refine k H ?_
  obtain ⟨g, h, s1, s2, ap, nt, ⟨q, e, hp⟩, cl⟩ := (s.imp t.tk).part
  cases e
  have nk : g p = none := (ap p).resolve_right (by rw [hp]; simp)
  refine cl [At (.ref p) (Kel o)] H (hor g (upd hnil p o)) hnil same_hor_l (hor_sub s1 fun b u e => ?_) same_nil (fun _ => .inr rfl) noTup_nil ⟨hnil, hnil, Same.refl _, Same.refl _, apart_nil, ⟨p, rfl, by rw [hor_r nk, upd_same]⟩, trivial⟩ (fun b u e n => e) (fun b n => ?_) (fun b n => absurd rfl n)
  · by_cases z : b = p
    · subst z; rw [upd_same] at e; rw [← e]; exact s2 _ _ hp
    · rw [upd_ne z] at e; cases e
  · by_cases z : b = p
    · subst z; exact .inl (by rw [hp]; simp)
    · refine .inr (.inl fun y => n ?_)
      rw [hor_r y, upd_ne z]; rfl
end
/-! ### slots left free -/
class SetO (σ : St) (n : Nat) (τ : outParam St) : Prop where
  eq : σ.set n none = τ
instance seto_0 {o : Option V} {σ : St} : SetO (o :: σ) 0 (none :: σ) := ⟨rfl⟩
instance seto_s {o : Option V} {σ τ : St} {n : Nat} [h : SetO σ n τ] : SetO (o :: σ) (n + 1) (o :: τ) := ⟨by rw [List.set_cons_succ, h.eq]⟩
class Wip (σ : St) (own : List (Str × Nat)) (τ : outParam St) : Prop where
  eq : wipe σ (own.map (·.2)) = τ
instance wip_nil {σ : St} : Wip σ [] σ := ⟨rfl⟩
instance wip_cons {σ τ τ' : St} {y : Str} {n : Nat} {r : List (Str × Nat)} [h : Wip σ r τ] [k : SetO τ n τ'] : Wip σ ((y, n) :: r) τ' := ⟨by
  rw [List.map_cons]
  show (wipe σ (r.map (·.2))).set n none = τ'
  rw [h.eq, k.eq]⟩
/-! ### loops -/
section
variable {P P' F : List As} {K : PySem.W.Frag} {σ : St} {Q : VK} {D : Ends} {a p : Addr} {xs ys : List V} {n : Nat} {g : TG} {tb : TS} {J : It}
/-- what holds at a turn -/
inductive nxJ (I : Nat → St → List As → Prop) (i : Nat) (σ : St) (H : Hp) : Prop
  | mk (P : List As) (h : I i σ P) (s : Sat P H) : nxJ I i σ H
theorem e_nx {I : Nat → St → List As → Prop} {i : Nat} {σ : St} (h : ∃ P', I i σ P' ∧ Imp P P') : Ent P (fun H => nxJ I i σ H) := fun H s => by
  obtain ⟨P', h, m⟩ := h
  exact ⟨P', h, s.imp m.imp⟩
theorem e_for {G : Hp → Prop} {Y : Nat → Hp → V → Hp → Prop} (w : Walk J n G Y) (I : Nat → St → List As → Prop) (h0 : I 0 σ P) (hG : ∀ i σ P, i ≤ n → I i σ P → ∀ H, Sat P H → G H)
    (hs : ∀ i σ P, i < n → I i σ P → ∀ x H H', Sat P H → Y i H x H' → g x σ H' fun σ2 H2 => tb { D with nx := nxJ I (i + 1), ct := nxJ I (i + 1), bk := D.nx } σ2 H2)
    (hd : ∀ σ P, I n σ P → Ent P (fun H => D.nx σ H)) : Ent P (fun H => kFor J g tb D σ H) := fun H s =>
  w_for w (nxJ I) ⟨P, h0, s⟩ (fun i σ H hi ⟨P, q, s⟩ => hG i σ P hi q H s) (fun i x σ H H' hi ⟨P, q, s⟩ y => hs i σ P hi q x H H' s y) fun σ H ⟨P, q, s⟩ => hd σ P q H s
theorem e_forL (xs : List V) (I : Nat → St → List As → Prop) {P0 : List As} (h0 : I 0 σ P0) [m0 : Imp P P0] (hG : ∀ i σ P, I i σ P → ∀ H, Sat P H → H p = some (.lst xs))
    (hs : ∀ i x σ P, xs[i]? = some x → I i σ P → Ent P (fun H => g x σ H fun σ2 H2 => tb { D with nx := nxJ I (i + 1), ct := nxJ I (i + 1), bk := D.nx } σ2 H2))
    (hd : ∀ σ P, I xs.length σ P → Ent P (fun H => D.nx σ H)) : Ent P (fun H => kFor (Itl K p) g tb D σ H) :=
  Ent.to (Q := P0) <| e_for (walk_list (K := K) (a := p) (xs := xs)) I h0 (fun i σ P _ q H s => SqL.of (hG i σ P q H s)) (fun i σ P hi q x H H' s y => by obtain ⟨rfl, e⟩ := y; exact hs i x σ P e q _ s) hd
theorem e_forT (xs : List V) (I : Nat → St → List As → Prop) {P0 : List As} (h0 : I 0 σ P0) [m0 : Imp P P0] (hG : ∀ i σ P, I i σ P → ∀ H, Sat P H → H p = some (.tup xs))
    (hs : ∀ i x σ P, xs[i]? = some x → I i σ P → Ent P (fun H => g x σ H fun σ2 H2 => tb { D with nx := nxJ I (i + 1), ct := nxJ I (i + 1), bk := D.nx } σ2 H2))
    (hd : ∀ σ P, I xs.length σ P → Ent P (fun H => D.nx σ H)) : Ent P (fun H => kFor (Itt K p) g tb D σ H) :=
  Ent.to (Q := P0) <| e_for (walk_tup (K := K) (a := p) (xs := xs)) I h0 (fun i σ P _ q H s => SqT.of (hG i σ P q H s)) (fun i σ P hi q x H H' s y => by obtain ⟨rfl, e⟩ := y; exact hs i x σ P e q _ s) hd
theorem e_forR {lo : Int} {n : Nat} (I : Nat → St → List As → Prop) {P0 : List As} (h0 : I 0 σ P0) [m0 : Imp P P0]
    (hs : ∀ i σ P, i < n → I i σ P → Ent P (fun H => g (.int (lo + (i : Nat))) σ H fun σ2 H2 => tb { D with nx := nxJ I (i + 1), ct := nxJ I (i + 1), bk := D.nx } σ2 H2))
    (hd : ∀ σ P, I n σ P → Ent P (fun H => D.nx σ H)) : Ent P (fun H => kFor (Itr lo n) g tb D σ H) :=
  Ent.to (Q := P0) <| e_for (walk_range (lo := lo) (n := n)) I h0 (fun _ _ _ _ _ _ _ => trivial) (fun i σ P hi q x H H' s y => by obtain ⟨rfl, rfl⟩ := y; exact hs i σ P hi q _ s) hd
theorem e_forR0 {n : Nat} (I : Nat → St → List As → Prop) {P0 : List As} (h0 : I 0 σ P0) [m0 : Imp P P0]
    (hs : ∀ (i : Nat) σ P, i < n → I i σ P → Ent P (fun H => g (.int (i : Nat)) σ H fun σ2 H2 => tb { D with nx := nxJ I (i + 1), ct := nxJ I (i + 1), bk := D.nx } σ2 H2))
    (hd : ∀ σ P, I n σ P → Ent P (fun H => D.nx σ H)) : Ent P (fun H => kFor (Itr 0 n) g tb D σ H) :=
  e_forR (P := P) (P0 := P0) I h0 (fun i σ P hi q => by rw [Int.zero_add]; exact hs i σ P hi q) hd
theorem e_nxL {N : St → Hp → Prop} {r : VK} {b c : St → Hp → Prop} (e : Ent P (fun H => N σ H)) : Ent P (fun H => Ends.nx { nx := N, rt := r, bk := b, ct := c } σ H) := e
/-- what stands between two statements -/
theorem e_cut {t1 t2 : TS} (I : St → List As → Prop) (h2 : ∀ σ P, I σ P → Ent P (fun H => t2 D σ H))
    (h1 : ∀ N : St → Hp → Prop, (∀ σ P, I σ P → Ent P (fun H => N σ H)) → Ent P (fun H => t1 { D with nx := N } σ H)) : Ent P (fun H => tSeq t1 t2 D σ H) := h1 (t2 D) h2
/-! comprehensions -/
/-- a turn's end: the list at D is acc, the rest as told -/
inductive nxC (D : Addr) (I : List V → List As → Prop) (H : Hp) : Prop
  | mk (acc : List V) (P : List As) (h : I acc P) (s : Sat (At (.ref D) (LstX acc) :: P) H) : nxC D I H
/-- the list at D gets y -/
def puC (D : Addr) (I : List V → List As → Prop) : VK := fun y H4 => ∃ acc, H4 D = some (.lst acc) ∧ acc.length < sizeLine ∧ nxC D I (upd H4 D (.lst (acc ++ [y])))
theorem e_pu {I : List V → List As → Prop} {y : V} {acc : List V} (P' : List As) (t : Take P (.ref a) (LstX acc) F) (hz : acc.length < 100000) (h : I (acc ++ [y]) P') [m : Imp F P'] : Ent P (fun H => puC a I y H) := fun H s =>
  ⟨acc, Sat.sees (F := F) (s.imp t.tk), Nat.lt_of_lt_of_le hz (by decide), acc ++ [y], P', h, ((s.imp t.tk).set _ (fun _ e => by cases e)).imp fun _ _ z => SatL.cons m.imp z⟩
theorem e_no {I : List V → List As → Prop} {acc : List V} (P' : List As) (t : Take P (.ref a) (LstX acc) F) (h : I acc P') [m : Imp F P'] : Ent P (fun H => nxC a I H) := fun H s =>
  ⟨acc, P', h, (s.imp t.tk).imp fun _ _ z => SatL.cons m.imp z⟩
theorem e_lc {G : Hp → Prop} {Y : Nat → Hp → V → Hp → Prop} {tt : TT} {te : TE} {vs : List Nat} {σ0 : St} (w : Walk J n G Y) (hw : wipe σ vs = σ0) (I : Nat → List V → List As → Prop) (h0 : I 0 [] P) (hG : ∀ i acc P, i ≤ n → I i acc P → ∀ H, Sat P H → G H)
    (hs : ∀ D i acc P, i < n → I i acc P → ∀ x H H', Sat (At (.ref D) (LstX acc) :: P) H → Y i H x H' → g x σ0 H' fun σ2 H2 => wipe σ2 vs = σ0 ∧ tt σ2 H2 fun b H3 => kIf b (te σ2 H3 (puC D (I (i + 1)))) (nxC D (I (i + 1)) H3))
    (hd : ∀ D acc P, I n acc P → Ent (At (.ref D) (LstX acc) :: P) (fun H => Q (.ref D) H)) : Ent P (fun H => kLc J g tt te vs σ Q H) := by
  subst hw
  intro H s D hD
  refine ⟨fun i m H => m = n - i ∧ i ≤ n ∧ nxC D (I i) H, ⟨n, by simp, Nat.zero_le _, [], P, h0, s.new hD ⟨D, rfl, upd_same⟩ fun _ e => by cases e⟩, ?_⟩
  rintro i m H ⟨rfl, hi, acc, P', p, s'⟩
  have q := hG i acc P' hi p H (s'.imp fun _ _ z => z.tail)
  by_cases hlt : i < n
  · refine .inr ⟨w.goes i H hlt q, nxC D (I (i + 1)), fun H' p' => ⟨n - (i + 1), by omega, rfl, hlt, p'⟩, fun x H' y => hs D i acc P' hlt p x H H' s' (w.yields i H x H' hlt q y)⟩
  · have e : i = n := by omega
    subst e
    exact .inl ⟨w.stops H q, hd D acc P' p H s'⟩
theorem e_lcL {tt : TT} {te : TE} {vs : List Nat} {σ0 : St} (xs : List V) (hw : wipe σ vs = σ0) (I : Nat → List V → List As → Prop) (h0 : I 0 [] P) (hG : ∀ i acc P, I i acc P → ∀ H, Sat P H → H p = some (.lst xs))
    (hs : ∀ D i x acc P, xs[i]? = some x → I i acc P → Ent (At (.ref D) (LstX acc) :: P) (fun H => g x σ0 H fun σ2 H2 => wipe σ2 vs = σ0 ∧ tt σ2 H2 fun b H3 => kIf b (te σ2 H3 (puC D (I (i + 1)))) (nxC D (I (i + 1)) H3)))
    (hd : ∀ D acc P, I xs.length acc P → Ent (At (.ref D) (LstX acc) :: P) (fun H => Q (.ref D) H)) : Ent P (fun H => kLc (Itl K p) g tt te vs σ Q H) :=
  e_lc (walk_list (K := K) (a := p) (xs := xs)) hw I h0 (fun i acc P _ q H s => SqL.of (hG i acc P q H s)) (fun D i acc P hi q x H H' s y => by obtain ⟨rfl, e⟩ := y; exact hs D i x acc P e q _ s) hd
theorem e_lcT {tt : TT} {te : TE} {vs : List Nat} {σ0 : St} (xs : List V) (hw : wipe σ vs = σ0) (I : Nat → List V → List As → Prop) (h0 : I 0 [] P) (hG : ∀ i acc P, I i acc P → ∀ H, Sat P H → H p = some (.tup xs))
    (hs : ∀ D i x acc P, xs[i]? = some x → I i acc P → Ent (At (.ref D) (LstX acc) :: P) (fun H => g x σ0 H fun σ2 H2 => wipe σ2 vs = σ0 ∧ tt σ2 H2 fun b H3 => kIf b (te σ2 H3 (puC D (I (i + 1)))) (nxC D (I (i + 1)) H3)))
    (hd : ∀ D acc P, I xs.length acc P → Ent (At (.ref D) (LstX acc) :: P) (fun H => Q (.ref D) H)) : Ent P (fun H => kLc (Itt K p) g tt te vs σ Q H) :=
  e_lc (walk_tup (K := K) (a := p) (xs := xs)) hw I h0 (fun i acc P _ q H s => SqT.of (hG i acc P q H s)) (fun D i acc P hi q x H H' s y => by obtain ⟨rfl, e⟩ := y; exact hs D i x acc P e q _ s) hd
theorem e_lcR0 {tt : TT} {te : TE} {vs : List Nat} {σ0 : St} {n : Nat} (hw : wipe σ vs = σ0) (I : Nat → List V → List As → Prop) (h0 : I 0 [] P)
    (hs : ∀ D (i : Nat) acc P, i < n → I i acc P → Ent (At (.ref D) (LstX acc) :: P) (fun H => g (.int (i : Nat)) σ0 H fun σ2 H2 => wipe σ2 vs = σ0 ∧ tt σ2 H2 fun b H3 => kIf b (te σ2 H3 (puC D (I (i + 1)))) (nxC D (I (i + 1)) H3)))
    (hd : ∀ D acc P, I n acc P → Ent (At (.ref D) (LstX acc) :: P) (fun H => Q (.ref D) H)) : Ent P (fun H => kLc (Itr 0 n) g tt te vs σ Q H) :=
  e_lc (walk_range (lo := 0) (n := n)) hw I h0 (fun _ _ _ _ _ _ _ => trivial) (fun D i acc P hi q x H H' s y => by obtain ⟨rfl, rfl⟩ := y; dsimp only; rw [Int.zero_add]; exact hs D i acc P hi q _ s) hd
theorem e_and {X : Prop} {Y : Hp → Prop} (h : X) (k : Ent P Y) : Ent P (fun H => X ∧ Y H) := fun H s => ⟨h, k H s⟩
end
end Qn

/-! Q12: every second item of a tuple. -/
namespace Qn
open PySem PySem.Spec L2 PyProof.Rows HT
/-- the first, the third, .. -/
def alt {α : Type} : List α → List α
  | [] => []
  | [x] => [x]
  | x :: _ :: r => x :: alt r
theorem alt_pick {α : Type} : ∀ xs : List α, ((List.range ((xs.length + 1) / 2)).filterMap fun m => xs[m * 2]?) = alt xs
  | [] => by simp [alt]
  | [x] => by
    rw [show ([x].length + 1) / 2 = 1 by simp]
    rfl
  | x :: y :: r => by
    have ih := alt_pick r
    rw [show ((x :: y :: r).length + 1) / 2 = (r.length + 1) / 2 + 1 by simp only [List.length_cons]; omega, List.range_succ_eq_map, List.filterMap_cons_some (f := fun m => (x :: y :: r)[m * 2]?) (b := x) rfl, List.filterMap_map]
    show x :: _ = x :: alt r
    rw [← ih]
    congr 1
    have ef : ((fun m => (x :: y :: r)[m * 2]?) ∘ Nat.succ) = fun m => r[m * 2]? := by
      funext m
      show (x :: y :: r)[(m + 1) * 2]? = r[m * 2]?
      rw [show (m + 1) * 2 = m * 2 + 1 + 1 by omega]
      rfl
    rw [ef]
theorem alt_len {α : Type} : ∀ xs : List α, (alt xs).length ≤ xs.length
  | [] => Nat.le_refl _
  | [_] => Nat.le_refl _
  | _ :: _ :: r => by
    have := alt_len r
    simp only [alt, List.length_cons]
    omega
theorem alt_map {α β : Type} (f : α → β) : ∀ xs : List α, alt (xs.map f) = (alt xs).map f
  | [] => rfl
  | [_] => rfl
  | x :: y :: r => by
    show f x :: alt (r.map f) = f x :: (alt r).map f
    rw [alt_map f r]
theorem Vals.alt : ∀ {xs : List V} {us : List Value}, Vals xs us → Vals (Qn.alt xs) (Qn.alt us)
  | _, _, .nil => .nil
  | _, _, .cons r .nil => .cons r .nil
  | _, _, .cons r (.cons _ h) => .cons r (Vals.alt h)
section
variable {prog : Program} {w : World} {A : Around} {E : Value → Shared → Prop} {s : Shared}
theorem adjust_two (lo : Option Int) (n : Nat) : Builtin.Slice.sliceAdjust lo none 2 (n : Int) = (((sIx n 0 lo : Nat) : Int), (n : Int)) := by
  have h1 : ¬ ((2 : Int) < 0) := by omega
  unfold Builtin.Slice.sliceAdjust
  simp only [h1, if_false]
  refine Prod.ext ?_ rfl
  cases lo with
  | none => rfl
  | some v => exact clip_eq v n 0
theorem places_two (i n : Nat) (h : i ≤ n) : Builtin.Slice.slicePlaces (i : Int) (n : Int) 2 = (n - i + 1) / 2 := by
  unfold Builtin.Slice.slicePlaces
  have h1 : (2 : Int) > 0 := by omega
  simp only [h1, if_true]
  split <;> omega
theorem sliceApplied_two {sl : Addr} {vl : Value} {u : Tok} {lo : Option Int} {n : Nat} {Q : Int × Int × Nat → Shared → Prop} (hs : s.heap.IsSliceOf sl vl .none (.int 2 u)) (pl : IsPart vl lo)
    (h : Q (((sIx n 0 lo : Nat) : Int), 2, (n - sIx n 0 lo + 1) / 2) s) : wpAny (model prog w) A (Builtin.Slice.sliceApplied (.ref sl) (pure (n : Int))) Q E s := by
  obtain ⟨os, hos, hcs, hds⟩ := id hs
  unfold Builtin.Slice.sliceApplied Builtin.Slice.sliceFields
  refine wpAny_bind (wpAny_bind (wpAny_field hos hds (x := vl) rfl (wpAny_bind (wpAny_field hos hds (x := .none) rfl (wpAny_bind (wpAny_field hos hds (x := .int 2 u) rfl (wpAny_pure ?_)))))))
  refine wpAny_bind (slicePart_int ?_)
  show wpAny _ _ (if ((2 : Int) == 0) = true then _ else _) _ _ s
  rw [if_neg (by decide)]
  refine wpAny_bind (slicePart_ pl (wpAny_bind (slicePart_none (wpAny_bind (wpAny_pure ?_)))))
  show wpAny _ _ (match Builtin.Slice.sliceAdjust lo none 2 (n : Int) with | (lo, hi) => pure (lo, (2 : Int), Builtin.Slice.slicePlaces lo hi 2)) _ _ s
  rw [adjust_two lo n]
  show wpAny _ _ (pure (((sIx n 0 lo : Nat) : Int), (2 : Int), Builtin.Slice.slicePlaces ((sIx n 0 lo : Nat) : Int) (n : Int) 2)) _ _ s
  rw [places_two _ _ (sIx_le _ _ (Nat.zero_le _) lo)]
  exact wpAny_pure h
theorem getItem_tuple_two {t sl : Addr} {items : Array Value} {vl : Value} {u : Tok} {lo : Option Int} {Q : Value → Shared → Prop} (ht : IsTup s.heap t items) (hs : s.heap.IsSliceOf sl vl .none (.int 2 u)) (pl : IsPart vl lo)
    (h : Q (.ref s.heap.objs.size) { s with heap := s.heap.push { cls := .type "tuple", data := .seq (alt (items.toList.drop (sIx items.size 0 lo))).toArray } })
    (hsz : items.size ≤ sizeLine) : wpAny (model prog w) A (getItem (.ref t) (.ref sl)) Q E s := by
  have htake : sizeOk (.seq (alt (items.toList.drop (sIx items.size 0 lo))).toArray) := by
    show (alt (items.toList.drop (sIx items.size 0 lo))).toArray.size ≤ sizeLine
    rw [List.size_toArray]
    refine Nat.le_trans (alt_len _) ?_
    rw [List.length_drop, Array.length_toList]
    omega
  have hj : sIx items.size 0 lo ≤ items.size := sIx_le _ _ (Nat.zero_le _) lo
  obtain ⟨os, hos, hcs, hds⟩ := id hs
  have hTs : s.TypeIs (.ref sl) "slice" := ⟨os, hos, hcs⟩
  unfold getItem
  try with_reducible refine wpAny_holding ?_
  first | refine wpAny_bind (wpAny_pure ?_) | skip
  refine wpAny_bind (wpAny_sequenceKey ht.typeIs (by decide) ?_)
  refine wpAny_bind (wpAny_callSpecial?_slot (name := Str.ofString "__getitem__") ht.typeIs PyProof.Rows.slot_tuple_getitem
    (wpAny_call_entry PyProof.Rows.slot_tuple_getitem ht.typeIs entry_tuple_getitem ?_ (args_tuple_getitem _ _)))
  show wpAny _ _ (Builtin.Tuple.tupleItemsOf (.ref t) >>= _) _ _ s
  refine wpAny_bind (tupleItemsOf_ ht ?_)
  refine wpAny_bind (wpAny_typeOf hTs ?_)
  rw [if_pos (by decide)]
  refine wpAny_bind (sliceApplied_two hs pl ?_)
  have hno : ¬ ((((sIx items.size 0 lo : Nat) : Int) == 0 && (2 : Int) == 1 && ((items.size - sIx items.size 0 lo + 1) / 2) == items.size) = true) := by
    intro q
    rw [Bool.and_eq_true, Bool.and_eq_true] at q
    exact absurd q.1.2 (by decide)
  show wpAny _ _ (if (((sIx items.size 0 lo : Nat) : Int) == 0 && (2 : Int) == 1 && ((items.size - sIx items.size 0 lo + 1) / 2) == items.size) = true then _ else _) _ _ s
  have hp : ((List.range ((items.size - sIx items.size 0 lo + 1) / 2)).filterMap fun (m : Nat) => items[(((sIx items.size 0 lo : Nat) : Int) + (m : Int) * 2).toNat]?).toArray = (alt (items.toList.drop (sIx items.size 0 lo))).toArray := by
    rw [← alt_pick]
    congr 1
    rw [List.length_drop, Array.length_toList]
    congr 1
    funext m
    have : (((sIx items.size 0 lo : Nat) : Int) + (m : Int) * 2).toNat = sIx items.size 0 lo + m * 2 := by omega
    rw [this, List.getElem?_drop, Array.getElem?_toList]
  rw [if_neg hno, hp]
  first
    | exact wpAny_bind (m := Builtin.Tuple.tupleExact _) (wpAny_newObj_type (wpAny_pure ⟨_, rfl, wpAny_pure h⟩) htake)
    | exact wpAny_bind (m := Builtin.Tuple.tupleExact _) (wpAny_newObj_type (wpAny_bind (wpAny_pure (wpAny_pure ⟨_, rfl, wpAny_pure h⟩))) htake)
    | exact wpAny_bind (wpAny_bind (m := Builtin.Tuple.tupleExact _) (wpAny_newObj_type (wpAny_pure (wpAny_pure ⟨_, rfl, wpAny_pure h⟩)) htake))
    | exact wpAny_bind (wpAny_bind (m := Builtin.Tuple.tupleExact _) (wpAny_newObj_type (wpAny_pure ⟨_, rfl, wpAny_pure h⟩) htake))
end
section
variable {X : Cx} {e : Expr} {te : TE} {lo : Option Expr} {tl : TO} {pos p1 p3 : Pos} {k : Nat}
/-- t[lo::2] -/
def rTwo (K : PySem.W.Frag) : V → Option Int → Hp → VK → Prop := fun x lo H Q => ∃ a xs, x = .ref a ∧ SqT K H a xs ∧ ∀ p, H p = none → Q (.ref p) (upd H p (.tup (alt (xs.drop (HT.sIx xs.length 0 lo)))))
def tTwo (K : PySem.W.Frag) (te : TE) (tl : TO) : TE := fun σ H Q => te σ H fun x H1 => tl σ H1 fun l H2 => rTwo K x l H2 Q
theorem qe_sliceStep (he : PE X e te) (hl : PO X lo tl) : PE X (.Subscript e (.Slice lo none (some (.Constant (.int 2) k p1)) p3) pos) (tTwo X.K te tl) := by
  refine ⟨fun pins s σ H Q I h => ?_⟩
  refine Subscript_ (thn (he.run pins s σ H _ I h) fun v s1 ⟨x, H1, I1, r1, q1⟩ => ?_)
  have hst : PO X (some (.Constant (.int 2) k p1)) (tPart (tC (.int 2))) := po_some pe_int
  refine wpAny_Slice (thn (hl.run pins s1 σ H1 _ I1 q1) fun vl s2 ⟨l, H2, I2, pl, q2⟩ => ?_)
  refine thn (po_none.run pins s2 σ H2 (fun o H3 => o = none ∧ H3 = H2) I2 ⟨rfl, rfl⟩) fun vu s3 ⟨u, H3, I3, pu, eu, e3⟩ => ?_
  subst eu e3
  refine thn (hst.run pins s3 σ H3 (fun o H4 => o = some 2 ∧ H4 = H3) I3 ⟨2, rfl, rfl, rfl⟩) fun vs s4 ⟨o, H4, I4, ps, eo, e4⟩ => ?_
  subst eo e4
  have I5 : Inv X pins σ H4 { s4 with heap := s4.heap.push { cls := .type "slice", data := .fields #[vl, vu, vs] } } := I4.kept (t' := s4.toks) fun b ob q => Heap.get?_push_of_some _ q
  obtain ⟨a, xs, ex, hx, q⟩ := q2
  subst ex
  cases r1
  cases pu
  cases ps with
  | int _ u =>
  obtain ⟨its, r, ht, hz⟩ := I5.tuple hx
  have hlen : its.toArray.size = xs.length := by rw [List.size_toArray]; exact r.length.symm
  show wpAny (model X.prog X.w) X.A (subscriptTail e (.Slice lo none (some (.Constant (.int 2) k p1)) p3) (.ref a) (.ref s4.heap.objs.size)) (EP X pins σ Q) X.xe { s4 with heap := s4.heap.push { cls := .type "slice", data := .fields #[vl, .none, .int 2 u] } }
  refine tail_any (ops := [.ref a, .ref s4.heap.objs.size]) ht.typeIs (PyProof.Rows.slot_tuple_getitem.lookup) ?_ (by with_unfolding_all rfl)
  refine getItem_tuple_two ht (Heap.IsSliceOf.new _ vl .none (.int 2 u)) pl ?_ (by rw [hlen]; exact hz)
  rw [hlen]
  refine ⟨.ref _, _, I5.laid (t' := s4.toks) (o := .tup (alt (xs.drop (HT.sIx xs.length 0 l)))) (fun b ob q => Heap.get?_push_of_some _ q) (Nat.le_refl _) ?_, rfl, q _ (I5.hok.fresh (Nat.le_refl _))⟩
  exact ⟨Nat.le_trans (alt_len _) (by rw [List.length_drop]; omega), _, Vals.alt (r.drop (HT.sIx xs.length 0 l)), IsTup.new _ _⟩
end
section
variable {K : PySem.W.Frag} {H : Hp} {Q : VK} {te : TE} {tl : TO} {σ : L2.St} {P : List As} {p : Addr} {xs : List V} {lo : Option Int}
instance rd_two : Rd (tTwo K te tl σ H Q) (te σ H fun x H1 => tl σ H1 fun l H2 => rTwo K x l H2 Q) := ⟨id⟩
theorem e_two {ys : List V} [s : Sees P p (.tup xs)] (hy : alt (xs.drop (HT.sIx xs.length 0 lo)) = ys) (hl : ys.length ≤ 1000) (k : ∀ q, Ent (At (.ref q) (KTup ys) :: P) (fun H => Q (.ref q) H)) : Ent P (fun H => rTwo K (.ref p) lo H Q) :=
  fun H h => ⟨p, xs, rfl, SqT.of (s.sees H h), fun q nq => by rw [hy]; exact k q _ (h.newK nq ⟨q, rfl, upd_same⟩)⟩
end
end Qn

/-! Q13: sum and min of a tuple of numbers. -/
namespace Qn
open PySem PySem.Spec PySem.W L2 PyProof.Rows
section
variable {prog : Program} {w : World} {A : Around} {E : Value → Shared → Prop} {s : Shared} {l : Addr} {its : List Value} {ns : List Int} {Q : Value → Shared → Prop}
theorem sum_rawT (hh : A.handled = none) (hl : s.heap.IsTuple l its.toArray) (hi : IntsAre its ns)
    (h : ∀ h' tk t', (∀ b o, s.heap.get? b = some o → h'.get? b = some o) → Q (.int ns.sum t') { s with heap := h', toks := tk }) : wpAny (model prog w) A (call (.builtin "sum") [.ref l]) Q E s := by
  obtain ⟨xs, e⟩ := hi.allInts.items
  have hn : numsOf (intItems xs).toList = ns := by rw [← e]; exact hi.numsOf
  rw [nums_intItems] at hn
  rw [e] at hl
  refine PySem.W.ktm_sumG hh hl fun h' tk t' hk => ?_
  have := h h' tk t' hk
  rw [preSum_eq, List.take_of_length_le (by simp), hn]; exact this
theorem min_rawT (hh : A.handled = none) (hl : s.heap.IsTuple l its.toArray) (hi : IntsAre its ns) (hne : 0 < ns.length)
    (h : ∀ h' tk M t', (∀ b o, s.heap.get? b = some o → h'.get? b = some o) → M ∈ ns → (∀ a, a ∈ ns → M ≤ a) → Q (.int M t') { s with heap := h', toks := tk }) : wpAny (model prog w) A (call (.builtin "min") [.ref l]) Q E s := by
  obtain ⟨xs, e⟩ := hi.allInts.items
  have hn : numsOf (intItems xs).toList = ns := by rw [← e]; exact hi.numsOf
  rw [nums_intItems] at hn
  subst hn
  rw [e] at hl
  have hsz : 0 < xs.size := by simpa using hne
  have hiz : (intItems xs).size = xs.size := by simp [intItems]
  refine call_min_walkH (iter_tupleW (A := A.in1) hh hl fun s₂ e W st hfp hw hk => ?_)
  refine ⟨_, _, _, _, _, _, _, s.heap, _, rfl, W, st, hfp, by rw [hiz]; exact hsz, hw, hk, (fun i j vi vj s Q E _ hi hj h => CmpOf.ints_lt (numAt xs) (fun _ _ => intItems_at) i j vi vj s Q E hi hj h), fun v s' hP m => ?_⟩
  obtain ⟨h', tk, rfl, hk'⟩ := moved_old e rfl m
  rw [hiz] at hP
  obtain ⟨t, rfl⟩ := intItems_at hP
  obtain ⟨h1, h2⟩ := argBest_lt (numAt xs) (xs.size - 1)
  refine h h' tk _ t hk' ?_ fun a ha => ?_
  · rw [numAt_eq]; exact PySem.getD_mem (by rw [List.length_map, Array.length_toList]; omega)
  · obtain ⟨j, hj, rfl⟩ := mem_getD ha
    rw [List.length_map, Array.length_toList] at hj
    rw [← numAt_eq]; exact h2 j (by omega)
end
section
variable {X : Cx}
def rSumT (K : PySem.W.Frag) : List V → Hp → VK → Prop := fun vs H Q => ∃ (a : Addr) (ns : List Int), vs = [V.ref a] ∧ SqT K H a (ns.map V.int) ∧ Q (.int ns.sum) H
def rMinT (K : PySem.W.Frag) : List V → Hp → VK → Prop := fun vs H Q => ∃ (a : Addr) (ns : List Int), vs = [V.ref a] ∧ SqT K H a (ns.map V.int) ∧ 0 < ns.length ∧ ∀ m, m ∈ ns → (∀ y, y ∈ ns → m ≤ y) → Q (.int m) H
theorem cr_sumT (hc : X.calm = true) : CallR X (.builtin "sum") (rSumT X.K) := by
  intro pins s σ H vs us Q I r h
  obtain ⟨a, ns, rfl, hs, q⟩ := h
  obtain ⟨its, rv, hl, _⟩ := I.tuple hs
  rw [Vals.ref1 r]
  exact sum_rawT (I.ok.hd hc) hl rv.ints fun h' tk t' hk => ⟨.int _, H, I.kept hk, ⟨_, rfl⟩, q⟩
theorem cr_minT (hc : X.calm = true) : CallR X (.builtin "min") (rMinT X.K) := by
  intro pins s σ H vs us Q I r h
  obtain ⟨a, ns, rfl, hs, hne, q⟩ := h
  obtain ⟨its, rv, hl, _⟩ := I.tuple hs
  rw [Vals.ref1 r]
  exact min_rawT (I.ok.hd hc) hl rv.ints hne fun h' tk m t' hk h1 h2 => ⟨.int _, H, I.kept hk, ⟨_, rfl⟩, q m h1 h2⟩
end
section
variable {K : PySem.W.Frag} {Q : VK} {P : List As} {p : Addr} {ns : List Int}
theorem e_sumT {n : Int} [s : Sees P p (.tup (ns.map V.int))] (hn : ns.sum = n) (k : Ent P (fun H => Q (.int n) H)) : Ent P (fun H => rSumT K [.ref p] H Q) := fun H h => ⟨p, ns, rfl, SqT.of (s.sees H h), by rw [hn]; exact k H h⟩
theorem e_minT [s : Sees P p (.tup (ns.map V.int))] (hn : 0 < ns.length) (k : ∀ m, m ∈ ns → (∀ y, y ∈ ns → m ≤ y) → Ent P (fun H => Q (.int m) H)) : Ent P (fun H => rMinT K [.ref p] H Q) := fun H h => ⟨p, ns, rfl, SqT.of (s.sees H h), hn, fun m h1 h2 => k m h1 h2 H h⟩
end
def sp5 (F : V → V → V → V → V → Hp → VK → XK → Prop) : Sp := fun vs H Q E => ∃ x y z u v, vs = [x, y, z, u, v] ∧ F x y z u v H Q E
section
variable {vs : List V} {H : Hp} {Q : VK} {E : XK}
theorem sp5_len {F : V → V → V → V → V → Hp → VK → XK → Prop} {p q r t n : Str} (h : sp5 F vs H Q E) : vs.length = [p, q, r, t, n].length := by obtain ⟨_, _, _, _, _, rfl, _⟩ := h; rfl
theorem sp5_mk {F : V → V → V → V → V → Hp → VK → XK → Prop} {x y z u v : V} (h : F x y z u v H Q E) : sp5 F [x, y, z, u, v] H Q E := ⟨x, y, z, u, v, rfl, h⟩
end
end Qn

/-! Q14: (a number, a tuple of numbers) < another one. -/
namespace Qn
open PySem L2 PySem.Spec PyProof.Rows
def rLtIT (K : PySem.W.Frag) : R2 := fun x y H Q => ∃ (a b p q : Addr) (i j : Int) (ns ms : List Int), x = .ref a ∧ y = .ref b ∧ SqT K H a [.int i, .ref p] ∧ SqT K H b [.int j, .ref q] ∧ SqT K H p (ns.map V.int) ∧ SqT K H q (ms.map V.int) ∧
  SeqAt.shaped (.tuple (ns.map .int)) = true ∧ SeqAt.shaped (.tuple (ms.map .int)) = true ∧ Q (.bl (if i = j then HT.lexLt ns ms else decide (i < j))) H
theorem eqv_intsT {xs ys : List Int} : PyData.eqv (.tuple (xs.map .int)) (.tuple (ys.map .int)) = decide (xs = ys) := by
  show PyData.eqvAll (xs.map .int) (ys.map .int) = _
  induction xs generalizing ys with
  | nil => cases ys <;> simp [PyData.eqvAll]
  | cons x xs ih =>
    cases ys with
    | nil => simp [PyData.eqvAll]
    | cons y ys =>
      simp only [List.map_cons, PyData.eqvAll, ih, PyData.eqv]
      by_cases e : x = y <;> by_cases e2 : xs = ys <;> simp [e, e2]
theorem lexLt_same : ∀ xs : List Int, HT.lexLt xs xs = false
  | [] => rfl
  | x :: xs => by unfold HT.lexLt; rw [if_pos rfl]; exact lexLt_same xs
theorem op_ltIT {X : Cx} (hu : X.A.units + 64 + 2 < cLine) : OpR X (compareOp .Lt) (rLtIT X.K) := by
  intro pins s σ H x y v u Q I rx ry h
  obtain ⟨a, b, p, q, i, j, ns, ms, rfl, rfl, ha, hb, hp, hq, sd, se, k⟩ := h
  cases rx
  cases ry
  obtain ⟨its, r1, p1, _⟩ := I.tuple ha
  obtain ⟨its2, r2, p2, _⟩ := I.tuple hb
  obtain ⟨jts, r3, p3, _⟩ := I.tuple hp
  obtain ⟨jts2, r4, p4, _⟩ := I.tuple hq
  have i3 : IntsAre jts.toArray.toList ns := intsAre_of r3
  have i4 : IntsAre jts2.toArray.toList ms := intsAre_of r4
  obtain ⟨t1, rfl⟩ : ∃ t1, its = [.int i t1, .ref p] := by
    cases r1 with
    | cons z1 r1 =>
      cases r1 with
      | cons z2 r1 =>
        cases r1
        obtain ⟨t1, rfl⟩ := z1
        cases z2
        exact ⟨t1, rfl⟩
  obtain ⟨t2, rfl⟩ : ∃ t2, its2 = [.int j t2, .ref q] := by
    cases r2 with
    | cons z1 r1 =>
      cases r1 with
      | cons z2 r1 =>
        cases r1
        obtain ⟨t1, rfl⟩ := z1
        cases z2
        exact ⟨t1, rfl⟩
  obtain ⟨as, d1⟩ := Dp.reads I (.tuple (ns.map .int)) (.ref p) (.ref p) (.tup hp (dpAll_map fun n _ => .int n)) rfl
  obtain ⟨bs, d2⟩ := Dp.reads I (.tuple (ms.map .int)) (.ref q) (.ref q) (.tup hq (dpAll_map fun n _ => .int n)) rfl
  have R := Ob.RcOp.tuples_lt (A := X.A) (s := s) (e := fun n => if n = 0 then i == j else decide (ns = ms)) (r := fun n => if n = 0 then decide (i < j) else HT.lexLt ns ms) p1 p2 (by omega) (fun n h1 h2 => by
    match n, h1, h2 with
    | 0, _, _ => exact SeqAt.EqAt.int_int _ _ _ _
    | 1, _, _ =>
      show SeqAt.EqAt X.A.in1 s (.ref p) (.ref q) (decide (ns = ms))
      by_cases e : p = q
      · subst e
        have : ns = ms := by
          have h0 := congrArg (List.map fun v => match v with | V.int n => n | _ => 0) (I.tuple_inj hp hq)
          rw [List.map_map, List.map_map] at h0
          have e1 : ((fun v => match v with | V.int n => n | _ => 0) ∘ V.int) = fun n : Int => n := rfl
          rw [e1] at h0
          simpa using h0
        rw [decide_eq_true this]
        exact SeqAt.EqAt.same _
      · rw [← eqv_intsT]
        exact SeqAt.EqAt.of_refs e fun prog w E Q hq => SeqAt.compareEq_shaped d1 d2 sd se (by show X.A.units + 1 + 64 < cLine; omega) hq
    | n + 2, h1, _ => simp at h1; omega) (fun n h1 h2 _ => by
    match n, h1, h2 with
    | 0, _, _ => exact Ob.RcOp.lt_int _ _ _ _
    | 1, _, _ => exact fun prog w E Q hq => HT.lt_tupInts p3 p4 i3 i4 (by show X.A.units + 1 < cLine; omega) hq
    | n + 2, h1, _ => simp at h1; omega)
  refine R _ _ _ _ ?_
  refine ⟨.bl _, H, I, rfl, ?_⟩
  have e : Ob.lexAt (fun n => if n = 0 then i == j else decide (ns = ms)) (fun n => if n = 0 then decide (i < j) else HT.lexLt ns ms) (decide (([Value.int i t1, .ref p] : List Value).toArray.size < ([Value.int j t2, .ref q] : List Value).toArray.size)) 0 (min ([Value.int i t1, .ref p] : List Value).toArray.size ([Value.int j t2, .ref q] : List Value).toArray.size) = if i = j then HT.lexLt ns ms else decide (i < j) := by
    show Ob.lexAt _ _ false 0 2 = _
    rw [Ob.lexAt_succ]
    by_cases e1 : i = j
    · subst e1
      simp only [if_pos rfl, beq_self_eq_true]
      rw [Ob.lexAt_succ]
      simp only [Nat.zero_add, Nat.one_ne_zero, if_false]
      by_cases e2 : ns = ms
      · subst e2
        simp only [decide_true, if_pos rfl, Ob.lexAt_zero]
        exact (lexLt_same ns).symm
      · simp [decide_eq_false e2]
    · have : (i == j) = false := beq_eq_false_iff_ne.mpr e1
      simp [this, e1]
  rw [e]
  exact k
theorem room_units2 {k : Nat} {A : Around} (r : Room k A) : A.units + 64 + 2 < cLine := by have := r.un; omega
end Qn

/-! Q17: texts. -/
namespace Qn
open PySem L2 PySem.Spec PyProof.Rows
def oAddS : R2 := fun x y H Q => ∃ i j : Str, x = .str i ∧ y = .str j ∧ i.length + j.length ≤ sizeLine ∧ Q (.str (i ++ j)) H
theorem qo_addS {X : Cx} : OpR X (binaryOp .Add) oAddS := op_add_str
def rInS : R2 := fun x y H Q => ∃ (c : Nat) (z : Str), x = .str ⟨#[c]⟩ ∧ y = .str z ∧ Q (.bl (decide (c ∈ z.cps.toList))) H
theorem qo_inS {X : Cx} : OpR X (compareOp .In) rInS := op_in_sign
def cStr : List V → Hp → VK → Prop := fun xs H Q => (∃ i : Int, xs = [.int i] ∧ i.natAbs.log2 < 1920 ∧ Q (.str (toString i)) H) ∨ ∃ a, xs = [.str a] ∧ Q (.str a) H
theorem cr_str {X : Cx} : CallR X (.type "str") cStr := call_str_int.or SkE.call_str_str
def cIntS : List V → Hp → VK → Prop := fun xs H Q => ∃ (a : Str) (n : Int), xs = [.str a] ∧ PySem.intText? a = some n ∧ a.length ≤ 640 ∧ Q (.int n) H
theorem cr_intS {X : Cx} : CallR X (.type "int") cIntS := call_int_str
def cLenS : List V → Hp → VK → Prop := fun xs H Q => ∃ z : Str, xs = [.str z] ∧ z.length ≤ sizeLine ∧ Q (.int z.length) H
theorem cr_lenS {X : Cx} : CallR X (.builtin "len") cLenS := call_len_str
def rSplit : V → List V → Hp → VK → Prop := fun x xs H Q => ∃ a b : Str, x = .str a ∧ xs = [.str b] ∧ (b.length == 0) = false ∧ a.length + 2 ≤ sizeLine ∧ rNewStrs (Txt.split a b) H Q
def rJoin (K : PySem.W.Frag) : V → List V → Hp → VK → Prop := fun x xs H Q => ∃ (a : Str) (p : Addr) (ys : List Str), x = .str a ∧ xs = [.ref p] ∧ (SqL K H p (ys.map V.str) ∨ SqT K H p (ys.map V.str)) ∧ (ys.map (·.length)).sum + ys.length * a.length ≤ 16777216 ∧ Q (.str (Txt.join a ys)) H
section
variable {X : Cx} {o e : Expr} {to te : TE} {apos pos : Pos}
theorem qe_split (ho : PE X o to) (he : PE X e te) (hs : starEach [e] X.env = [(false, eval e X.env)] := by rfl) (hb : attributeBase o "split" X.env (eval o X.env) = eval o X.env := by rfl) (hl : (apos.endLine == pos.line) = true := by rfl) :
    PE X (.Call (.Attribute o "split" apos) [e] [] pos) (tM1 rSplit to te) := pe_split ho he hs hb hl
theorem qe_join (ho : PE X o to) (he : PE X e te) (hs : starEach [e] X.env = [(false, eval e X.env)] := by rfl) (hb : attributeBase o "join" X.env (eval o X.env) = eval o X.env := by rfl) (hl : (apos.endLine == pos.line) = true := by rfl) :
    PE X (.Call (.Attribute o "join" apos) [e] [] pos) (tM1 (rJoin X.K) to te) := pe_join ho he hs hb hl
end
section
variable {P : List As} {K : PySem.W.Frag} {Q : VK} {p : Addr} {H : Hp} {σ : L2.St}
instance rd_m1 {r : V → List V → Hp → VK → Prop} {to te : TE} : Rd (tM1 r to te σ H Q) (to σ H fun x H1 => (∃ a, x = V.str a) ∧ te σ H1 fun y H2 => r x [y] H2 Q) := ⟨fun k => k⟩
instance rd_isS {b : Str} {X : Prop} : Rd ((∃ a, V.str b = V.str a) ∧ X) X := ⟨fun k => ⟨⟨b, rfl⟩, k⟩⟩
instance rd_iStr {te : TE} {R : It → Hp → Prop} : Rd (iStr te σ H R) (te σ H fun v H1 => ∃ x, v = V.str x ∧ R (Its x) H1) := ⟨fun k => k⟩
instance rd_exS {z : Str} {R : Str → Prop} : Rd (∃ x, V.str z = V.str x ∧ R x) (R z) := ⟨fun k => ⟨z, rfl, k⟩⟩
theorem e_addS {a b : Str} (h : a.length + b.length ≤ sizeLine) (k : Ent P (fun H => Q (.str (a ++ b)) H)) : Ent P (fun H => oAddS (.str a) (.str b) H Q) := fun H s => ⟨a, b, rfl, rfl, h, k H s⟩
theorem e_inS {c : Nat} {z : Str} (k : Ent P (fun H => Q (.bl (decide (c ∈ z.cps.toList))) H)) : Ent P (fun H => rInS (.str ⟨#[c]⟩) (.str z) H Q) := fun H s => ⟨c, z, rfl, rfl, k H s⟩
theorem e_strI {i : Int} (h : i.natAbs.log2 < 1920) (k : Ent P (fun H => Q (.str (toString i)) H)) : Ent P (fun H => cStr [.int i] H Q) := fun H s => .inl ⟨i, rfl, h, k H s⟩
theorem e_strS {a : Str} (k : Ent P (fun H => Q (.str a) H)) : Ent P (fun H => cStr [.str a] H Q) := fun H s => .inr ⟨a, rfl, k H s⟩
theorem e_intS {a : Str} {n : Int} (h : PySem.intText? a = some n) (hl : a.length ≤ 640) (k : Ent P (fun H => Q (.int n) H)) : Ent P (fun H => cIntS [.str a] H Q) := fun H s => ⟨a, n, rfl, h, hl, k H s⟩
theorem e_lenS {a : Str} (h : a.length ≤ sizeLine) (k : Ent P (fun H => Q (.int a.length) H)) : Ent P (fun H => cLenS [.str a] H Q) := fun H s => ⟨a, rfl, h, k H s⟩
theorem e_ixS {z : Str} {i : Int} {c : Nat} (hz : z.length ≤ sizeLine) (e : atI z.cps.toList i = some c) (k : Ent P (fun H => Q (.str ⟨#[c]⟩) H)) : Ent P (fun H => rIxS (.str z) (.int i) H Q) := fun H s => ⟨z, i, c, rfl, rfl, hz, e, k H s⟩
theorem e_split {a b : Str} (hb : (b.length == 0) = false) (h : a.length + 2 ≤ sizeLine) (k : ∀ q, Ent (At (.ref q) (LstX ((Txt.split a b).map V.str)) :: P) (fun H => Q (.ref q) H)) : Ent P (fun H => rSplit (.str a) [.str b] H Q) := fun H s =>
  ⟨a, b, rfl, rfl, hb, h, fun q nq => k q _ (s.new nq ⟨q, rfl, upd_same⟩ fun _ e => by cases e)⟩
theorem e_join {a : Str} {ys : List Str} [s : Sees P p (.lst (ys.map V.str))] (h : (ys.map (·.length)).sum + ys.length * a.length ≤ 16777216) (k : Ent P (fun H => Q (.str (Txt.join a ys)) H)) : Ent P (fun H => rJoin K (.str a) [.ref p] H Q) := fun H z =>
  ⟨a, p, ys, rfl, rfl, .inl (SqL.of (s.sees H z)), h, k H z⟩
theorem e_lcS {g : TG} {tt : TT} {te : TE} {vs : List Nat} {σ0 : L2.St} (z : Str) (hw : wipe σ vs = σ0) (I : Nat → List V → List As → Prop) (h0 : I 0 [] P)
    (hs : ∀ D i c acc P, z.cps[i]? = some c → I i acc P → Ent (At (.ref D) (LstX acc) :: P) (fun H => g (.str ⟨#[c]⟩) σ0 H fun σ2 H2 => wipe σ2 vs = σ0 ∧ tt σ2 H2 fun b H3 => kIf b (te σ2 H3 (puC D (I (i + 1)))) (nxC D (I (i + 1)) H3)))
    (hd : ∀ D acc P, I z.cps.size acc P → Ent (At (.ref D) (LstX acc) :: P) (fun H => Q (.ref D) H)) : Ent P (fun H => kLc (Its z) g tt te vs σ Q H) :=
  e_lc (walk_str (z := z)) hw I h0 (fun _ _ _ _ _ _ _ => trivial) (fun D i acc P hi q x H H2 s y => by obtain ⟨rfl, c, e, rfl⟩ := y; exact hs D i c acc P e q _ s) hd
end
end Qn

/-! PH: the text by places, its facts. -/
namespace Qn
open PySem L2
def top (i : Nat) : Stmt := PySem.Challenge.pw_quantalines_k13_rules_written.main.body.getD i (.Pass ⟨0, 0, 0, 0⟩)
abbrev s_is_number : Stmt := top 20
abbrev N_is_number : List Str := ["part", "low", "high"]
theorem sc_is_number : FnScope N_is_number ["part", "low", "high"] (defScope s_is_number) := ⟨rfl, rfl, rfl, by decide +kernel, rfl, by decide +kernel, by decide +kernel⟩
abbrev s_is_line : Stmt := top 21
abbrev N_is_line : List Str := ["line"]
theorem sc_is_line : FnScope N_is_line ["line"] (defScope s_is_line) := ⟨rfl, rfl, rfl, by decide +kernel, rfl, by decide +kernel, by decide +kernel⟩
abbrev s_need_rules : Stmt := top 22
abbrev N_need_rules : List Str := ["rules", "lines", "boost", "charge", "number", "line"]
theorem sc_need_rules : FnScope N_need_rules ["rules"] (defScope s_need_rules) := ⟨rfl, rfl, rfl, by decide +kernel, rfl, by decide +kernel, by decide +kernel⟩
abbrev s_is_bursts : Stmt := top 23
abbrev N_is_bursts : List Str := ["bursts", "burst"]
theorem sc_is_bursts : FnScope N_is_bursts ["bursts"] (defScope s_is_bursts) := ⟨rfl, rfl, rfl, by decide +kernel, rfl, by decide +kernel, by decide +kernel⟩
abbrev s_need_tasks : Stmt := top 24
abbrev N_need_tasks : List Str := ["tasks", "number", "task"]
theorem sc_need_tasks : FnScope N_need_tasks ["tasks"] (defScope s_need_tasks) := ⟨rfl, rfl, rfl, by decide +kernel, rfl, by decide +kernel, by decide +kernel⟩
abbrev s_written : Stmt := top 32
abbrev N_written : List Str := ["rules", "tasks", "lines", "boost", "charge", "rows", "quantum", "share", "moment", "bursts", "row", "part"]
theorem sc_written : FnScope N_written ["rules", "tasks"] (defScope s_written) := ⟨rfl, rfl, rfl, by decide +kernel, rfl, by decide +kernel, by decide +kernel⟩
abbrev s_number_of : Stmt := top 33
abbrev N_number_of : List Str := ["word", "sign"]
theorem sc_number_of : FnScope N_number_of ["word"] (defScope s_number_of) := ⟨rfl, rfl, rfl, by decide +kernel, rfl, by decide +kernel, by decide +kernel⟩
abbrev s_Reader__init : Stmt := inClass (top 34) 0
abbrev N_Reader__init : List Str := ["self"]
theorem sc_Reader__init : FnScope N_Reader__init ["self"] (defScope s_Reader__init) := ⟨rfl, rfl, rfl, by decide +kernel, rfl, by decide +kernel, by decide +kernel⟩
abbrev s_Reader_take : Stmt := inClass (top 34) 1
abbrev N_Reader_take : List Str := ["self", "words", "first", "rest", "numbers", "word"]
theorem sc_Reader_take : FnScope N_Reader_take ["self", "words"] (defScope s_Reader_take) := ⟨rfl, rfl, rfl, by decide +kernel, rfl, by decide +kernel, by decide +kernel⟩
abbrev s_read : Stmt := top 35
abbrev N_read : List Str := ["text", "reader", "row", "line", "boost", "charge", "rules"]
theorem sc_read : FnScope N_read ["text"] (defScope s_read) := ⟨rfl, rfl, rfl, by decide +kernel, rfl, by decide +kernel, by decide +kernel⟩
abbrev s_law_begun : Stmt := top 37
abbrev N_law_begun : List Str := ["_law_script", "_law_stirred", "_law_cell"]
theorem sc_law_begun : FnScope N_law_begun ["_law_script"] (defScope s_law_begun) := ⟨rfl, rfl, rfl, by decide +kernel, rfl, by decide +kernel, by decide +kernel⟩
abbrev s_law_take : Stmt := top 38
abbrev N_law_take : List Str := ["_law_box", "_law_many", "_law_number"]
theorem sc_law_take : FnScope N_law_take ["_law_box", "_law_many"] (defScope s_law_take) := ⟨rfl, rfl, rfl, by decide +kernel, rfl, by decide +kernel, by decide +kernel⟩
abbrev s_law_alike : Stmt := top 39
abbrev N_law_alike : List Str := ["_law_found", "_law_due", "_law_k"]
theorem sc_law_alike : FnScope N_law_alike ["_law_found", "_law_due"] (defScope s_law_alike) := ⟨rfl, rfl, rfl, by decide +kernel, rfl, by decide +kernel, by decide +kernel⟩
abbrev s_law_rules : Stmt := top 40
abbrev N_law_rules : List Str := ["_law_box", "_law_lines", "_law_line", "_law_quantum", "_law_boost"]
theorem sc_law_rules : FnScope N_law_rules ["_law_box"] (defScope s_law_rules) := ⟨rfl, rfl, rfl, by decide +kernel, rfl, by decide +kernel, by decide +kernel⟩
abbrev s_law_tasks : Stmt := top 41
abbrev N_law_tasks : List Str := ["_law_box", "_law_most", "_law_found", "_law_task", "_law_bursts", "_law_turn"]
theorem sc_law_tasks : FnScope N_law_tasks ["_law_box", "_law_most"] (defScope s_law_tasks) := ⟨rfl, rfl, rfl, by decide +kernel, rfl, by decide +kernel, by decide +kernel⟩
abbrev s_law_text : Stmt := top 42
abbrev N_law_text : List Str := ["_law_rules_here", "_law_tasks_here", "_law_lines", "_law_boost", "_law_charge", "_law_rows", "_law_moment", "_law_bursts", "_law_quantum", "_law_share", "_law_burst"]
theorem sc_law_text : FnScope N_law_text ["_law_rules_here", "_law_tasks_here"] (defScope s_law_text) := ⟨rfl, rfl, rfl, by decide +kernel, rfl, by decide +kernel, by decide +kernel⟩
abbrev s_law : Stmt := top 43
abbrev N_law : List Str := ["_law_script", "_law_box", "_law_turn", "_law_rules_here", "_law_tasks_here", "_law_handed", "_law_again", "_law_found"]
theorem sc_law : FnScope N_law ["_law_script"] (defScope s_law) := ⟨rfl, rfl, rfl, by decide +kernel, rfl, by decide +kernel, by decide +kernel⟩
structure Adr where
  (is_number is_line need_rules is_bursts need_tasks written number_of Reader__init Reader_take read law_begun law_take law_alike law_rules law_tasks law_text law Reader : Addr)
structure Txt (K : PySem.W.Frag) (mg : Str → Option Value) (a : Adr) : Prop where
  f_is_number : ∃ fd, Fun K "is_number" "is_number" s_is_number a.is_number fd ∧ Binds K fd ["part", "low", "high"] []
  g_is_number : mg "is_number" = some (.ref a.is_number)
  f_is_line : ∃ fd, Fun K "is_line" "is_line" s_is_line a.is_line fd ∧ Binds K fd ["line"] []
  g_is_line : mg "is_line" = some (.ref a.is_line)
  f_need_rules : ∃ fd, Fun K "need_rules" "need_rules" s_need_rules a.need_rules fd ∧ Binds K fd ["rules"] []
  g_need_rules : mg "need_rules" = some (.ref a.need_rules)
  f_is_bursts : ∃ fd, Fun K "is_bursts" "is_bursts" s_is_bursts a.is_bursts fd ∧ Binds K fd ["bursts"] []
  g_is_bursts : mg "is_bursts" = some (.ref a.is_bursts)
  f_need_tasks : ∃ fd, Fun K "need_tasks" "need_tasks" s_need_tasks a.need_tasks fd ∧ Binds K fd ["tasks"] []
  g_need_tasks : mg "need_tasks" = some (.ref a.need_tasks)
  f_written : ∃ fd, Fun K "written" "written" s_written a.written fd ∧ Binds K fd ["rules", "tasks"] []
  g_written : mg "written" = some (.ref a.written)
  f_number_of : ∃ fd, Fun K "number_of" "number_of" s_number_of a.number_of fd ∧ Binds K fd ["word"] []
  g_number_of : mg "number_of" = some (.ref a.number_of)
  f_Reader__init : ∃ fd, Fun K "__init__" "Reader.__init__" s_Reader__init a.Reader__init fd ∧ Binds K fd ["self"] []
  f_Reader_take : ∃ fd, Fun K "take" "Reader.take" s_Reader_take a.Reader_take fd ∧ Binds K fd ["self", "words"] []
  m_Reader_take : Meth K a.Reader "take" a.Reader_take
  f_read : ∃ fd, Fun K "read" "read" s_read a.read fd ∧ Binds K fd ["text"] []
  g_read : mg "read" = some (.ref a.read)
  f_law_begun : ∃ fd, Fun K "_law_begun" "_law_begun" s_law_begun a.law_begun fd ∧ Binds K fd ["_law_script"] []
  g_law_begun : mg "_law_begun" = some (.ref a.law_begun)
  f_law_take : ∃ fd, Fun K "_law_take" "_law_take" s_law_take a.law_take fd ∧ Binds K fd ["_law_box", "_law_many"] []
  g_law_take : mg "_law_take" = some (.ref a.law_take)
  f_law_alike : ∃ fd, Fun K "_law_alike" "_law_alike" s_law_alike a.law_alike fd ∧ Binds K fd ["_law_found", "_law_due"] []
  g_law_alike : mg "_law_alike" = some (.ref a.law_alike)
  f_law_rules : ∃ fd, Fun K "_law_rules" "_law_rules" s_law_rules a.law_rules fd ∧ Binds K fd ["_law_box"] []
  g_law_rules : mg "_law_rules" = some (.ref a.law_rules)
  f_law_tasks : ∃ fd, Fun K "_law_tasks" "_law_tasks" s_law_tasks a.law_tasks fd ∧ Binds K fd ["_law_box", "_law_most"] []
  g_law_tasks : mg "_law_tasks" = some (.ref a.law_tasks)
  f_law_text : ∃ fd, Fun K "_law_text" "_law_text" s_law_text a.law_text fd ∧ Binds K fd ["_law_rules_here", "_law_tasks_here"] []
  g_law_text : mg "_law_text" = some (.ref a.law_text)
  f_law : ∃ fd, Fun K "law" "law" s_law a.law fd ∧ Binds K fd ["_law_script"] []
  g_law : mg "law" = some (.ref a.law)
  c_Reader : Cls K a.Reader
  g_Reader : mg "Reader" = some (.ref a.Reader)
  n_Reader_head : NoAttr K a.Reader "head"
  n_Reader_read_lines : NoAttr K a.Reader "read_lines"
  n_Reader_read_tasks : NoAttr K a.Reader "read_tasks"
  k_Reader : Mk K a.Reader a.Reader__init
  z_len : mg "len" = none
  z_isinstance : mg "isinstance" = none
  z_all : mg "all" = none
  z_range : mg "range" = none
  z_enumerate : mg "enumerate" = none
  z_int : mg "int" = none
  z_bool : mg "bool" = none
  z_str : mg "str" = none
  z_tuple : mg "tuple" = none
  z_list : mg "list" = none
  g_MOST_LINES : ∃ t, mg "MOST_LINES" = some (.int 4 t)
  g_MOST_QUANTUM : ∃ t, mg "MOST_QUANTUM" = some (.int 8 t)
  g_MOST_SHARE : ∃ t, mg "MOST_SHARE" = some (.int 40 t)
  g_LEAST_BOOST : ∃ t, mg "LEAST_BOOST" = some (.int 5 t)
  g_MOST_BOOST : ∃ t, mg "MOST_BOOST" = some (.int 100 t)
  g_KEPT : ∃ t, mg "KEPT" = some (.str "kept" t)
  g_ANEW : ∃ t, mg "ANEW" = some (.str "anew" t)
  g_LINES : ∃ t, mg "LINES" = some (.int 0 t)
  g_BOOST : ∃ t, mg "BOOST" = some (.int 1 t)
  g_CHARGE : ∃ t, mg "CHARGE" = some (.int 2 t)
  g_MOST_TASKS : ∃ t, mg "MOST_TASKS" = some (.int 12 t)
  g_MOST_BURSTS : ∃ t, mg "MOST_BURSTS" = some (.int 9 t)
  g_MOST_BURST : ∃ t, mg "MOST_BURST" = some (.int 40 t)
  g_MOST_UNTIL : ∃ t, mg "MOST_UNTIL" = some (.int 400 t)
  g_FIGURES : ∃ t, mg "FIGURES" = some (.str "0123456789" t)
  g_LINE : ∃ t, mg "LINE" = some (.str "
" t)
  g_NONE : ∃ t, mg "NONE" = some (.str "-" t)
  g_RULES : ∃ t, mg "RULES" = some (.str "rules" t)
  g_ROW : ∃ t, mg "ROW" = some (.str "line" t)
  g_TASK : ∃ t, mg "TASK" = some (.str "task" t)
end Qn

namespace Qn
open PySem L2
local macro_rules | `(tactic| fail "ne") => `(tactic| first | assumption | (apply Ne.symm; assumption) | (apply ne_of_none; assumption; assumption) | (apply Ne.symm; apply ne_of_none; assumption; assumption) | (apply ne_of; assumption; assumption; (intro z; cases z)))
local macro_rules | `(tactic| fail "hp") => `(tactic| with_reducible first | assumption | apply upd_same | (apply upd_old; rotate_left; assumption; fail "hp") | (apply upd_oth; rotate_left; fail "ne"; fail "hp"))
local macro_rules | `(tactic| fail "sl") => `(tactic| with_reducible first | assumption | (apply SqL.of; fail "hp"))
local macro_rules | `(tactic| fail "st") => `(tactic| with_reducible first | assumption | (apply SqT.of; fail "hp"))
local macro_rules | `(tactic| fail "tx") => `(tactic| with_reducible first | assumption | (apply Txt.c_Reader; assumption) | (apply Txt.n_Reader_head; assumption) | (apply Txt.n_Reader_read_lines; assumption) | (apply Txt.n_Reader_read_tasks; assumption))
local macro_rules | `(tactic| fail "lk") => `(tactic| with_reducible first | assumption | apply lk_LF_rules | apply lk_LF_cards | apply lk_LF_rows | apply lk_LF_time | apply lk_CF_line | apply lk_CF_quantum | apply lk_CF_share | apply lk_CF_is_ready | apply lk_CF_spent | (apply lk_LF_no; decide +kernel; decide +kernel; decide +kernel; decide +kernel))
local macro_rules | `(tactic| fail "at") => `(tactic| with_reducible first | assumption | apply mc_0 | apply mc_1 | apply mc_2 | apply mc_3 | apply mc_4 | apply at_0 | apply at_1 | apply at_2 | apply at_3 | apply at_4 | (apply atI_nat; assumption) | (apply at_z; assumption))
local macro_rules | `(tactic| fail "go") => `(tactic| repeat (first
  | apply rd_step
  | with_reducible (first
    | (apply r_kFld; fail "hp"; fail "tx"; fail "tx"; fail "lk")
    | (apply r_ixL; fail "sl"; fail "at") | (apply r_ixT; fail "st"; fail "at")
    | (apply r_kMeth; fail "hp"; fail "lk") | (apply r_kBML; fail "sl")
    | (apply r_lenL; fail "sl") | (apply r_lenT; fail "st") | (apply r_lenD; fail "hp")
    | (apply r_kDGetI; fail "hp"; (first | assumption | rfl)) | (apply r_kDGetS; fail "hp"; (first | assumption | apply mv_rules | apply mv_rows | apply mv_cards | apply mv_now)) | (apply r_kDInI; fail "hp") | (apply r_kDNotInI; fail "hp")
    | (apply r_kAugF; fail "hp"; fail "tx"; fail "tx"; fail "lk")
    | (apply r_isi_tuple_tuple; fail "st") | (apply r_isi_list_tuple; fail "sl") | (apply r_isi_list_list; fail "sl") | (apply r_isi_tuple_list; fail "st")
    | (apply r_kUnT; fail "st"; with_unfolding_all rfl) | (apply r_kIL; fail "sl") | (apply r_kIT; fail "st") | (apply r_kIE; fail "st") )))
local macro_rules | `(tactic| fail "eg") => `(tactic| repeat (first
  | apply stp
  | (refine e_rul0 (fun _ => ?_))

  | (refine e_tup0 (fun _ => ?_)) ))
local macro_rules | `(tactic| fail "egs") => `(tactic| (try (with_reducible refine e_seq ?_)) <;> repeat (first
  | apply stp
  | (with_reducible refine e_seq ?_)
  | (refine e_rul0 (fun _ => ?_))

  | (refine e_tup0 (fun _ => ?_)) ))
/-- a number within bounds -/
def numB (x : V) (lo hi : Int) : Bool := match x with
  | .int i => decide (lo ≤ i) && decide (i ≤ hi)
  | _ => false
def sp_is_number (K : PySem.W.Frag) (a : Adr) : Sp := sp3 fun x y z H Q _ => ∃ lo hi, plainV x = true ∧ y = .int lo ∧ z = .int hi ∧ Q (.bl (numB x lo hi)) H
section
variable {P : Program} {w : World} {K : PySem.W.Frag} {mg : Str → Option Value} {base : Heap} {a : Adr}
theorem ok_is_number (T : Txt K mg a) : Cal P w K mg base CX0 1 "is_number" ["part", "low", "high"] (sp_is_number K a) := by
  obtain ⟨fd, F, b⟩ := T.f_is_number
  refine ⟨a.is_number, fd, F.ok sc_is_number (fun vs H Q E h => sp3_len h) (fun cdv A outer s H vs Q E hr h => ?_), T.g_is_number, F.kp, b⟩
  refine ⟨_, (pss_one (ps_ret (pe_and (pe_callB call_isi (by rfl) T.z_isinstance (by decide +kernel) (pa_cons (pv 0) (pa_cons (q_bty (T := "int") (by rfl) T.z_int (by decide +kernel)) pa_nil))) (pe_and (pe_not (pe_callB call_isi (by rfl) T.z_isinstance (by decide +kernel) (pa_cons (pv 0) (pa_cons (q_bty (T := "bool") (by rfl) T.z_bool (by decide +kernel)) pa_nil)))) (pe_one (pe_chain qo_le qo_le (pv 1) (pv 0) (pv 2))))))), ?_⟩
  try dsimp only [cxOf, Cx.nox, Cx.wish, List.map_cons, List.map_nil]
  obtain ⟨x, y, z, rfl, h⟩ := h
  rw [show L2.start N_is_number [x, y, z] = [some x, some y, some z] from rfl]
  obtain ⟨lo, hi, px, rfl, rfl, k⟩ := h
  cases x with
  | int i =>
    fail "go"
    refine r_kIf (fun h1 => ?_) (fun h1 => ?_)
    · fail "go"
      have e : numB (.int i) lo hi = decide (i ≤ hi) := by show (decide (lo ≤ i) && decide (i ≤ hi)) = _; rw [h1]; rfl
      rw [← e]; exact k
    · have e : numB (.int i) lo hi = false := by show (decide (lo ≤ i) && decide (i ≤ hi)) = _; rw [h1]; rfl
      rw [← e]; exact k
  | bl i => fail "go"; exact k
  | non => fail "go"; exact k
  | str i => fail "go"; exact k
  | _ => cases px
/-- a pair (quantum, allotment) as it is to be -/
def sp_is_line (K : PySem.W.Frag) (a : Adr) : Sp := sp1 fun x H Q _ => ∃ p q s, x = .ref p ∧ H p = some (.tup [.int q, .int s]) ∧ 1 ≤ q ∧ q ≤ 8 ∧ q ≤ s ∧ s ≤ 40 ∧ Q (.bl true) H
theorem ok_is_line (T : Txt K mg a) : Cal P w K mg base CX0 2 "is_line" ["line"] (sp_is_line K a) := by
  obtain ⟨fd, F, b⟩ := T.f_is_line
  refine ⟨a.is_line, fd, F.ok sc_is_line (fun vs H Q E h => sp1_len h) (fun cdv A outer s H vs Q E hr h => ?_), T.g_is_line, F.kp, b⟩
  refine ⟨_, (pss_cons (ps_if (PW.pt (pw_or (pt_not (pt_val (pe_callB call_isi (by rfl) T.z_isinstance (by decide +kernel) (pa_cons (pv 0) (pa_cons (q_bty (T := "tuple") (by rfl) T.z_tuple (by decide +kernel)) pa_nil))))) (pw_or (pt_cmpR op_ne (pe_callB qr_len (by rfl) T.z_len (by decide +kernel) (pa_cons (pv 0) pa_nil)) pe_int (nomark _)) (pw_or1 (pt_not (pt_val (q_call (ok_is_number T) (hr.mono (by decide)) pass0 (pa_cons (pe_ix ix_tup (pv 0) pe_int (fun _ _ => rfl)) (pa_cons pe_int (pa_cons (q_cI T.g_MOST_QUANTUM) pa_nil))))))))))
 (pss_one (ps_ret pe_bl))
 pss_nil)
 (pss_one (ps_ret (q_call (ok_is_number T) (hr.mono (by decide)) pass0 (pa_cons (pe_ix ix_tup (pv 0) pe_int (fun _ _ => rfl)) (pa_cons (pe_ix ix_tup (pv 0) pe_int (fun _ _ => rfl)) (pa_cons (q_cI T.g_MOST_SHARE) pa_nil))))))), ?_⟩
  try dsimp only [cxOf, Cx.nox, Cx.wish, List.map_cons, List.map_nil]
  obtain ⟨x, rfl, h⟩ := h
  rw [show L2.start N_is_line [x] = [some x] from rfl]
  obtain ⟨p, q, s, rfl, hp, h1, h2, h3, h4, k⟩ := h
  fail "go"
  refine r_kF rfl ?_
  fail "go"
  refine sp3_mk ?_
  refine ⟨1, 8, rfl, rfl, rfl, ?_⟩
  have e1 : numB (.int q) 1 8 = true := by show (decide (1 ≤ q) && decide (q ≤ 8)) = _; simp; omega
  rw [e1]
  fail "go"
  refine sp3_mk ?_
  refine ⟨q, 40, rfl, rfl, rfl, ?_⟩
  have e2 : numB (.int s) q 40 = true := by show (decide (q ≤ s) && decide (s ≤ 40)) = _; simp; omega
  rw [e2]
  exact k
/-- rules as they are to be: let by -/
def sp_need_rules (K : PySem.W.Frag) (a : Adr) : Sp := sp1 fun x H Q _ => ∃ ra R la ps, x = .ref ra ∧ RulAt H ra R la ps ∧ R.Ok ∧ ∀ H', Same H H' → Q .non H'
theorem ok_need_rules (T : Txt K mg a) : Cal P w K mg base CX0 3 "need_rules" ["rules"] (sp_need_rules K a) := by
  obtain ⟨fd, F, b⟩ := T.f_need_rules
  refine ⟨a.need_rules, fd, F.ok sc_need_rules (fun vs H Q E h => sp1_len h) (fun cdv A outer s H vs Q E hr h => ?_), T.g_need_rules, F.kp, b⟩
  refine ⟨_, (pss_cons (ps_if (PW.pt (pw_or (pt_not (pt_val (pe_callB call_isi (by rfl) T.z_isinstance (by decide +kernel) (pa_cons (pv 0) (pa_cons (q_bty (T := "tuple") (by rfl) T.z_tuple (by decide +kernel)) pa_nil))))) (pw_or1 (pt_cmpR op_ne (pe_callB qr_len (by rfl) T.z_len (by decide +kernel) (pa_cons (pv 0) pa_nil)) pe_int (nomark _)))))
 pss_never
 pss_nil)
 (pss_cons (ps_asg (pv 0) (pg_tup (n := 3) rfl (pgs_cons (pg_name (i := 1) sc_need_rules.nd rfl (Or.inl rfl)) (pgs_cons (pg_name (i := 2) sc_need_rules.nd rfl (Or.inl rfl)) (pgs_cons (pg_name (i := 3) sc_need_rules.nd rfl (Or.inl rfl)) pgs_nil)))))
 (pss_cons (ps_if (PW.pt (pw_or (pt_not (pt_val (pe_callB call_isi (by rfl) T.z_isinstance (by decide +kernel) (pa_cons (pv 1) (pa_cons (q_bty (T := "tuple") (by rfl) T.z_tuple (by decide +kernel)) pa_nil))))) (pw_or1 (pt_cmpR (op_eqD (by exact hr.units)) (pv 1) qe_tup0 (nomark _)))))
 pss_never
 pss_nil)
 (pss_cons (ps_for PassesOwn.never rfl (qi_enumT (by rfl) T.z_enumerate (pa_cons (pv 1) pa_nil)) (pg_tup (n := 2) rfl (pgs_cons (pg_name (i := 4) sc_need_rules.nd rfl (Or.inl rfl)) (pgs_cons (pg_name (i := 5) sc_need_rules.nd rfl (Or.inl rfl)) pgs_nil)))
 (pss_one (ps_if (PW.pt (pw_or (pt_cmpR qo_ge (pv 4) (q_cI T.g_MOST_LINES) (nomark _)) (pw_or1 (pt_not (pt_val (q_call (ok_is_line T) (hr.mono (by decide)) pass0 (pa_cons (pv 5) pa_nil)))))))
 pss_never
 pss_nil)))
 (pss_cons (ps_if (PW.pt (pw_and (pt_cmpR op_notN1 (pv 2) pe_non (nomark _)) (pw_and1 (pt_not (pt_val (q_call (ok_is_number T) (hr.mono (by decide)) pass0 (pa_cons (pv 2) (pa_cons (q_cI T.g_LEAST_BOOST) (pa_cons (q_cI T.g_MOST_BOOST) pa_nil)))))))))
 pss_never
 pss_nil)
 (pss_one (ps_if (PW.pt (pw_or (pt_not (pt_val (pe_callB call_isi (by rfl) T.z_isinstance (by decide +kernel) (pa_cons (pv 3) (pa_cons (q_bty (T := "str") (by rfl) T.z_str (by decide +kernel)) pa_nil))))) (pw_or1 (pt_cmpR op_notIn_seq (pv 3) (pe_tup (pa_cons (q_cS T.g_KEPT) (pa_cons (q_cS T.g_ANEW) pa_nil))) (by rfl)))))
 pss_never
 pss_nil))))))), ?_⟩
  try dsimp only [cxOf, Cx.nox, Cx.wish, List.map_cons, List.map_nil]
  obtain ⟨x, rfl, h⟩ := h
  rw [show L2.start N_need_rules [x] = [some x, none, none, none, none, none] from rfl]
  obtain ⟨ra, R, la, ps, rfl, hR, ok, k⟩ := h
  have h1 := hR.rules
  have h2 := hR.lines
  fail "go"
  refine r_kF rfl ?_
  fail "go"
  intro p np
  have s1 : Same H (upd H p (.tup [])) := Same.upd np
  obtain ⟨ds, hd, sd, ld⟩ := (hR.same s1).dp (K := K)
  refine r_eqE_tup hd sd (SqT.of upd_same) ?_
  fail "go"
  have hne : ds.isEmpty = false := by
    cases ds with
    | nil => have := ok.one; simp at ld; omega
    | cons d r => rfl
  refine r_kF hne ?_
  generalize hH1 : upd H p (.tup []) = H1 at *
  have h2' := s1 _ _ h2
  fail "go"
  refine w_for walk_enumT (fun i σ H' => Same H1 H' ∧ ∃ n l, σ = [some (.ref ra), some (.ref la), some (bV R.boost), some (.str (chS R.kept)), n, l]) ⟨fun _ _ e => e, none, none, rfl⟩ (fun i σ H' _ q => SqT.of (q.1 _ _ h2')) ?_ ?_
  · rintro i v σ H2 H3 hi ⟨s2, n, l, rfl⟩ ⟨T', x, y, rfl, nT, rfl, e1, e2⟩
    cases Option.some.inj e1
    have s3 : Same H2 (upd H2 T' (.tup [.int (i : Nat), y])) := Same.upd nT
    rw [List.length_map, hR.len] at hi
    obtain ⟨q, e3, hq⟩ := ((hR.same s1).same (s2.trans s3)).line hi
    have e2' : (List.map V.ref ps)[i]? = some y := e2
    rw [e3] at e2'
    cases Option.some.inj e2'
    fail "go"
    have := ok.four
    refine r_kF (decide_eq_false (by omega)) ?_
    fail "go"
    refine sp1_mk ?_
    obtain ⟨o1, o2, o3, o4⟩ := ok.at hi
    refine ⟨q, _, _, rfl, hq, o1, o2, o3, o4, ?_⟩
    fail "go"
    exact ⟨s2.trans s3, _, _, rfl⟩
  · rintro σ H2 ⟨s2, n, l, rfl⟩
    fail "go"
    have fin : ∀ H3, Same H2 H3 → Q .non H3 := fun H3 s3 => k H3 (s1.trans (s2.trans s3))
    have last : ∀ n l, kTup [V.str "kept", V.str "anew"] H2 fun y H2' => rIn K true (.str (chS R.kept)) y H2' fun x H1 => kBool x H1 fun b H1 => kIf b (tNever { nx := fun _ H' => Q V.non H', rt := Q } [some (.ref ra), some (.ref la), some (bV R.boost), some (.str (chS R.kept)), n, l] H1) (tNext { nx := fun _ H' => Q V.non H', rt := Q } [some (.ref ra), some (.ref la), some (bV R.boost), some (.str (chS R.kept)), n, l] H1) := by
      intro n l
      refine r_kTup (by decide) fun q nq => ?_
      refine r_in (.inr (SqT.of upd_same)) rfl rfl ?_
      rw [chS_in]
      fail "go"
      exact fin _ (Same.upd nq)
    cases eb : R.boost with
    | none =>
      refine r_kF rfl ?_
      fail "go"
      rw [eb] at last
      exact last _ _
    | some b =>
      refine r_kT rfl ?_
      fail "go"
      refine sp3_mk ?_
      refine ⟨5, 100, rfl, rfl, rfl, ?_⟩
      obtain ⟨b1, b2⟩ := ok.boosts b eb
      have e : numB (bV (some b)) 5 100 = true := by show (decide (5 ≤ b) && decide (b ≤ 100)) = _; simp; omega
      rw [e]
      fail "go"
      rw [eb] at last
      exact last _ _
end
end Qn

namespace Qn
open PySem L2
local macro_rules | `(tactic| fail "ne") => `(tactic| first | assumption | (apply Ne.symm; assumption) | (apply ne_of_none; assumption; assumption) | (apply Ne.symm; apply ne_of_none; assumption; assumption) | (apply ne_of; assumption; assumption; (intro z; cases z)))
local macro_rules | `(tactic| fail "hp") => `(tactic| with_reducible first | assumption | apply upd_same | (apply upd_old; rotate_left; assumption; fail "hp") | (apply upd_oth; rotate_left; fail "ne"; fail "hp"))
local macro_rules | `(tactic| fail "sl") => `(tactic| with_reducible first | assumption | (apply SqL.of; fail "hp"))
local macro_rules | `(tactic| fail "st") => `(tactic| with_reducible first | assumption | (apply SqT.of; fail "hp"))
local macro_rules | `(tactic| fail "tx") => `(tactic| with_reducible first | assumption | (apply Txt.c_Reader; assumption) | (apply Txt.n_Reader_head; assumption) | (apply Txt.n_Reader_read_lines; assumption) | (apply Txt.n_Reader_read_tasks; assumption))
local macro_rules | `(tactic| fail "lk") => `(tactic| with_reducible first | assumption | apply lk_LF_rules | apply lk_LF_cards | apply lk_LF_rows | apply lk_LF_time | apply lk_CF_line | apply lk_CF_quantum | apply lk_CF_share | apply lk_CF_is_ready | apply lk_CF_spent | (apply lk_LF_no; decide +kernel; decide +kernel; decide +kernel; decide +kernel))
local macro_rules | `(tactic| fail "at") => `(tactic| with_reducible first | assumption | apply mc_0 | apply mc_1 | apply mc_2 | apply mc_3 | apply mc_4 | apply at_0 | apply at_1 | apply at_2 | apply at_3 | apply at_4 | (apply atI_nat; assumption) | (apply at_z; assumption))
local macro_rules | `(tactic| fail "go") => `(tactic| repeat (first
  | apply rd_step
  | with_reducible (first
    | (apply r_kFld; fail "hp"; fail "tx"; fail "tx"; fail "lk")
    | (apply r_ixL; fail "sl"; fail "at") | (apply r_ixT; fail "st"; fail "at")
    | (apply r_kMeth; fail "hp"; fail "lk") | (apply r_kBML; fail "sl")
    | (apply r_lenL; fail "sl") | (apply r_lenT; fail "st") | (apply r_lenD; fail "hp")
    | (apply r_kDGetI; fail "hp"; (first | assumption | rfl)) | (apply r_kDGetS; fail "hp"; (first | assumption | apply mv_rules | apply mv_rows | apply mv_cards | apply mv_now)) | (apply r_kDInI; fail "hp") | (apply r_kDNotInI; fail "hp")
    | (apply r_kAugF; fail "hp"; fail "tx"; fail "tx"; fail "lk")
    | (apply r_isi_tuple_tuple; fail "st") | (apply r_isi_list_tuple; fail "sl") | (apply r_isi_list_list; fail "sl") | (apply r_isi_tuple_list; fail "st")
    | (apply r_kUnT; fail "st"; with_unfolding_all rfl) | (apply r_kIL; fail "sl") | (apply r_kIT; fail "st") | (apply r_kIE; fail "st") )))
local macro_rules | `(tactic| fail "eg") => `(tactic| repeat (first
  | apply stp
  | (refine e_rul0 (fun _ => ?_))

  | (refine e_tup0 (fun _ => ?_)) ))
local macro_rules | `(tactic| fail "egs") => `(tactic| (try (with_reducible refine e_seq ?_)) <;> repeat (first
  | apply stp
  | (with_reducible refine e_seq ?_)
  | (refine e_rul0 (fun _ => ?_))

  | (refine e_tup0 (fun _ => ?_)) ))
section
variable {P : Program} {w : World} {K : PySem.W.Frag} {mg : Str → Option Value} {base : Heap} {a : Adr}
theorem put5 {n : Nat} {s : Addr} : putF "spent" (.ref s) (putF "is_ready" (.bl true) (putF "share" (.int 0) (putF "quantum" (.int 0) (putF "line" (.int 0) [])))) = CF ⟨0, 0, 0, true, List.replicate n 0⟩ s := by
  rw [put_nil (f := "line"), put_miss (f := "quantum") (by decide +kernel), put_nil (f := "quantum"), put_miss (f := "share") (by decide +kernel), put_miss (f := "share") (by decide +kernel), put_nil (f := "share"),
    put_miss (f := "is_ready") (by decide +kernel), put_miss (f := "is_ready") (by decide +kernel), put_miss (f := "is_ready") (by decide +kernel), put_nil (f := "is_ready"),
    put_miss (f := "spent") (by decide +kernel), put_miss (f := "spent") (by decide +kernel), put_miss (f := "spent") (by decide +kernel), put_miss (f := "spent") (by decide +kernel), put_nil (f := "spent")]
  rfl
theorem len_put {f : Str} {v : V} : ∀ {fs : List (Str × V)}, (putF f v fs).length ≤ fs.length + 1
  | [] => by rw [put_nil]; simp
  | (g, u) :: r => by
    unfold putF
    by_cases e : g = f
    · rw [if_pos e]; simp
    · rw [if_neg e]
      have := len_put (f := f) (v := v) (fs := r)
      simp; omega
end
end Qn

namespace Qn
open PySem L2
local macro_rules | `(tactic| fail "ne") => `(tactic| first | assumption | (apply Ne.symm; assumption) | (apply ne_of_none; assumption; assumption) | (apply Ne.symm; apply ne_of_none; assumption; assumption) | (apply ne_of; assumption; assumption; (intro z; cases z)))
local macro_rules | `(tactic| fail "hp") => `(tactic| with_reducible first | assumption | apply upd_same | (apply upd_old; rotate_left; assumption; fail "hp") | (apply upd_oth; rotate_left; fail "ne"; fail "hp"))
local macro_rules | `(tactic| fail "sl") => `(tactic| with_reducible first | assumption | (apply SqL.of; fail "hp"))
local macro_rules | `(tactic| fail "st") => `(tactic| with_reducible first | assumption | (apply SqT.of; fail "hp"))
local macro_rules | `(tactic| fail "tx") => `(tactic| with_reducible first | assumption | (apply Txt.c_Reader; assumption) | (apply Txt.n_Reader_head; assumption) | (apply Txt.n_Reader_read_lines; assumption) | (apply Txt.n_Reader_read_tasks; assumption))
local macro_rules | `(tactic| fail "lk") => `(tactic| with_reducible first | assumption | apply lk_LF_rules | apply lk_LF_cards | apply lk_LF_rows | apply lk_LF_time | apply lk_CF_line | apply lk_CF_quantum | apply lk_CF_share | apply lk_CF_is_ready | apply lk_CF_spent | (apply lk_LF_no; decide +kernel; decide +kernel; decide +kernel; decide +kernel))
local macro_rules | `(tactic| fail "at") => `(tactic| with_reducible first | assumption | apply mc_0 | apply mc_1 | apply mc_2 | apply mc_3 | apply mc_4 | apply at_0 | apply at_1 | apply at_2 | apply at_3 | apply at_4 | (apply atI_nat; assumption) | (apply at_z; assumption))
local macro_rules | `(tactic| fail "go") => `(tactic| repeat (first
  | apply rd_step
  | with_reducible (first
    | (apply r_kFld; fail "hp"; fail "tx"; fail "tx"; fail "lk")
    | (apply r_ixL; fail "sl"; fail "at") | (apply r_ixT; fail "st"; fail "at")
    | (apply r_kMeth; fail "hp"; fail "lk") | (apply r_kBML; fail "sl")
    | (apply r_lenL; fail "sl") | (apply r_lenT; fail "st") | (apply r_lenD; fail "hp")
    | (apply r_kDGetI; fail "hp"; (first | assumption | rfl)) | (apply r_kDGetS; fail "hp"; (first | assumption | apply mv_rules | apply mv_rows | apply mv_cards | apply mv_now)) | (apply r_kDInI; fail "hp") | (apply r_kDNotInI; fail "hp")
    | (apply r_kAugF; fail "hp"; fail "tx"; fail "tx"; fail "lk")
    | (apply r_isi_tuple_tuple; fail "st") | (apply r_isi_list_tuple; fail "sl") | (apply r_isi_list_list; fail "sl") | (apply r_isi_tuple_list; fail "st")
    | (apply r_kUnT; fail "st"; with_unfolding_all rfl) | (apply r_kIL; fail "sl") | (apply r_kIT; fail "st") | (apply r_kIE; fail "st") )))
local macro_rules | `(tactic| fail "eg") => `(tactic| repeat (first
  | apply stp
  | (refine e_rul0 (fun _ => ?_))

  | (refine e_tup0 (fun _ => ?_)) ))
local macro_rules | `(tactic| fail "egs") => `(tactic| (try (with_reducible refine e_seq ?_)) <;> repeat (first
  | apply stp
  | (with_reducible refine e_seq ?_)
  | (refine e_rul0 (fun _ => ?_))

  | (refine e_tup0 (fun _ => ?_)) ))
section
variable {P : Program} {w : World} {K : PySem.W.Frag} {mg : Str → Option Value} {base : Heap} {a : Adr}
/-- the numbers of the tasks that are there -/
def tasksOf (S : LSt) : List Int := all20.filter fun t => (look S.cards t).isSome
def oV : Option Int → V := bV
end
end Qn

namespace Qn
open PySem L2
local macro_rules | `(tactic| fail "ne") => `(tactic| first | assumption | (apply Ne.symm; assumption) | (apply ne_of_none; assumption; assumption) | (apply Ne.symm; apply ne_of_none; assumption; assumption) | (apply ne_of; assumption; assumption; (intro z; cases z)))
local macro_rules | `(tactic| fail "hp") => `(tactic| with_reducible first | assumption | apply upd_same | (apply upd_old; rotate_left; assumption; fail "hp") | (apply upd_oth; rotate_left; fail "ne"; fail "hp"))
local macro_rules | `(tactic| fail "sl") => `(tactic| with_reducible first | assumption | (apply SqL.of; fail "hp"))
local macro_rules | `(tactic| fail "st") => `(tactic| with_reducible first | assumption | (apply SqT.of; fail "hp"))
local macro_rules | `(tactic| fail "tx") => `(tactic| with_reducible first | assumption | (apply Txt.c_Reader; assumption) | (apply Txt.n_Reader_head; assumption) | (apply Txt.n_Reader_read_lines; assumption) | (apply Txt.n_Reader_read_tasks; assumption))
local macro_rules | `(tactic| fail "lk") => `(tactic| with_reducible first | assumption | apply lk_LF_rules | apply lk_LF_cards | apply lk_LF_rows | apply lk_LF_time | apply lk_CF_line | apply lk_CF_quantum | apply lk_CF_share | apply lk_CF_is_ready | apply lk_CF_spent | (apply lk_LF_no; decide +kernel; decide +kernel; decide +kernel; decide +kernel))
local macro_rules | `(tactic| fail "at") => `(tactic| with_reducible first | assumption | apply mc_0 | apply mc_1 | apply mc_2 | apply mc_3 | apply mc_4 | apply at_0 | apply at_1 | apply at_2 | apply at_3 | apply at_4 | (apply atI_nat; assumption) | (apply at_z; assumption))
local macro_rules | `(tactic| fail "go") => `(tactic| repeat (first
  | apply rd_step
  | with_reducible (first
    | (apply r_kFld; fail "hp"; fail "tx"; fail "tx"; fail "lk")
    | (apply r_ixL; fail "sl"; fail "at") | (apply r_ixT; fail "st"; fail "at")
    | (apply r_kMeth; fail "hp"; fail "lk") | (apply r_kBML; fail "sl")
    | (apply r_lenL; fail "sl") | (apply r_lenT; fail "st") | (apply r_lenD; fail "hp")
    | (apply r_kDGetI; fail "hp"; (first | assumption | rfl)) | (apply r_kDGetS; fail "hp"; (first | assumption | apply mv_rules | apply mv_rows | apply mv_cards | apply mv_now)) | (apply r_kDInI; fail "hp") | (apply r_kDNotInI; fail "hp")
    | (apply r_kAugF; fail "hp"; fail "tx"; fail "tx"; fail "lk")
    | (apply r_isi_tuple_tuple; fail "st") | (apply r_isi_list_tuple; fail "sl") | (apply r_isi_list_list; fail "sl") | (apply r_isi_tuple_list; fail "st")
    | (apply r_kUnT; fail "st"; with_unfolding_all rfl) | (apply r_kIL; fail "sl") | (apply r_kIT; fail "st") | (apply r_kIE; fail "st") )))
local macro_rules | `(tactic| fail "eg") => `(tactic| repeat (first
  | apply stp
  | (refine e_rul0 (fun _ => ?_))

  | (refine e_tup0 (fun _ => ?_)) ))
local macro_rules | `(tactic| fail "egs") => `(tactic| (try (with_reducible refine e_seq ?_)) <;> repeat (first
  | apply stp
  | (with_reducible refine e_seq ?_)
  | (refine e_rul0 (fun _ => ?_))

  | (refine e_tup0 (fun _ => ?_)) ))
section
variable {P : Program} {w : World} {K : PySem.W.Frag} {mg : Str → Option Value} {base : Heap} {a : Adr}
theorem mod_set {xs : List Int} {i : Nat} {m x : Int} (h : xs[i]? = some x) : xs.set i (x + m) = xs.modify i (· + m) := by
  apply List.ext_getElem?
  intro j
  rw [List.getElem?_modify]
  by_cases e : i = j
  · subst e
    have hi := (List.getElem?_eq_some_iff.mp h).1
    rw [List.getElem?_set_self hi, h]; simp
  · rw [List.getElem?_set_ne e]
    cases xs[j]? <;> simp [e]
theorem Wf.boostNow {n : Nat} {S : LSt} {R : Rul} (w : Wf n [] S) (hn : 0 < n) : Wf n [] (S.boostNow R) := by
  unfold LSt.boostNow
  by_cases e : S.due R = true
  · rw [if_pos e]; exact w.boosted hn
  · rw [if_neg e]; exact w
end
end Qn

namespace Qn
open PySem L2
local macro_rules | `(tactic| fail "ne") => `(tactic| first | assumption | (apply Ne.symm; assumption) | (apply ne_of_none; assumption; assumption) | (apply Ne.symm; apply ne_of_none; assumption; assumption) | (apply ne_of; assumption; assumption; (intro z; cases z)))
local macro_rules | `(tactic| fail "hp") => `(tactic| with_reducible first | assumption | apply upd_same | (apply upd_old; rotate_left; assumption; fail "hp") | (apply upd_oth; rotate_left; fail "ne"; fail "hp"))
local macro_rules | `(tactic| fail "sl") => `(tactic| with_reducible first | assumption | (apply SqL.of; fail "hp"))
local macro_rules | `(tactic| fail "st") => `(tactic| with_reducible first | assumption | (apply SqT.of; fail "hp"))
local macro_rules | `(tactic| fail "tx") => `(tactic| with_reducible first | assumption | (apply Txt.c_Reader; assumption) | (apply Txt.n_Reader_head; assumption) | (apply Txt.n_Reader_read_lines; assumption) | (apply Txt.n_Reader_read_tasks; assumption))
local macro_rules | `(tactic| fail "lk") => `(tactic| with_reducible first | assumption | apply lk_LF_rules | apply lk_LF_cards | apply lk_LF_rows | apply lk_LF_time | apply lk_CF_line | apply lk_CF_quantum | apply lk_CF_share | apply lk_CF_is_ready | apply lk_CF_spent | (apply lk_LF_no; decide +kernel; decide +kernel; decide +kernel; decide +kernel))
local macro_rules | `(tactic| fail "at") => `(tactic| with_reducible first | assumption | apply mc_0 | apply mc_1 | apply mc_2 | apply mc_3 | apply mc_4 | apply at_0 | apply at_1 | apply at_2 | apply at_3 | apply at_4 | (apply atI_nat; assumption) | (apply at_z; assumption))
local macro_rules | `(tactic| fail "go") => `(tactic| repeat (first
  | apply rd_step
  | with_reducible (first
    | (apply r_kFld; fail "hp"; fail "tx"; fail "tx"; fail "lk")
    | (apply r_ixL; fail "sl"; fail "at") | (apply r_ixT; fail "st"; fail "at")
    | (apply r_kMeth; fail "hp"; fail "lk") | (apply r_kBML; fail "sl")
    | (apply r_lenL; fail "sl") | (apply r_lenT; fail "st") | (apply r_lenD; fail "hp")
    | (apply r_kDGetI; fail "hp"; (first | assumption | rfl)) | (apply r_kDGetS; fail "hp"; (first | assumption | apply mv_rules | apply mv_rows | apply mv_cards | apply mv_now)) | (apply r_kDInI; fail "hp") | (apply r_kDNotInI; fail "hp")
    | (apply r_kAugF; fail "hp"; fail "tx"; fail "tx"; fail "lk")
    | (apply r_isi_tuple_tuple; fail "st") | (apply r_isi_list_tuple; fail "sl") | (apply r_isi_list_list; fail "sl") | (apply r_isi_tuple_list; fail "st")
    | (apply r_kUnT; fail "st"; with_unfolding_all rfl) | (apply r_kIL; fail "sl") | (apply r_kIT; fail "st") | (apply r_kIE; fail "st") )))
local macro_rules | `(tactic| fail "eg") => `(tactic| repeat (first
  | apply stp
  | (refine e_rul0 (fun _ => ?_))

  | (refine e_tup0 (fun _ => ?_)) ))
local macro_rules | `(tactic| fail "egs") => `(tactic| (try (with_reducible refine e_seq ?_)) <;> repeat (first
  | apply stp
  | (with_reducible refine e_seq ?_)
  | (refine e_rul0 (fun _ => ?_))

  | (refine e_tup0 (fun _ => ?_)) ))
def LSt.begin (R : Rul) : LSt := ⟨[], List.replicate R.lines.length [], 0⟩
theorem Wf.begin (R : Rul) : Wf R.lines.length [] (LSt.begin R) := by
  have row : ∀ l, (LSt.begin R).row l = [] := fun l => by
    unfold LSt.begin LSt.row
    rw [List.getD_eq_getElem?_getD, List.getElem?_replicate]
    by_cases h : l < R.lines.length
    · rw [if_pos h]; rfl
    · rw [if_neg h]; rfl
  refine ⟨List.length_replicate .., fun t c e => (by cases e), List.nodup_nil, fun l t => ?_, fun l => by rw [row]; exact List.nodup_nil⟩
  rw [row]
  constructor
  · intro h; cases h
  · rintro ⟨_, c, e, _⟩; cases e
theorem len2 {f1 f2 : Str} {v1 v2 : V} : (putF f2 v2 (putF f1 v1 [])).length < 1000 := by
  have h1 := len_put (f := f1) (v := v1) (fs := [])
  have h2 := len_put (f := f2) (v := v2) (fs := putF f1 v1 [])
  have h0 : ([] : List (Str × V)).length = 0 := rfl
  omega
theorem len1 {f1 : Str} {v1 : V} : (putF f1 v1 []).length < 1000 := by
  have h1 := len_put (f := f1) (v := v1) (fs := [])
  have h0 : ([] : List (Str × V)).length = 0 := rfl
  omega
theorem len3 {f1 f2 f3 : Str} {v1 v2 v3 : V} : (putF f3 v3 (putF f2 v2 (putF f1 v1 []))).length < 1000 := by
  have h1 := len_put (f := f1) (v := v1) (fs := [])
  have h2 := len_put (f := f2) (v := v2) (fs := putF f1 v1 [])
  have h3 := len_put (f := f3) (v := v3) (fs := putF f2 v2 (putF f1 v1 []))
  have h0 : ([] : List (Str × V)).length = 0 := rfl
  omega
def Geo.new (p dx cs rw : Addr) (f : Nat → Addr) (ra : Addr) : Geo := ⟨fun
  | .self => p
  | .cards => cs
  | .rws => rw
  | .row i => f i
  | _ => 0, dx, fun _ => 0, ra⟩
/-- new lines in a heap -/
theorem LR.begin {kd : Kd} {R : Rul} {p dx cs rw ra : Addr} {f : Nat → Addr} {H : Hp} (h1 : H p = some (kd.self (Geo.new p dx cs rw f ra) 0)) (h2 : H cs = some (.dK [])) (h3 : H rw = some (.lst ((List.range R.lines.length).map fun i => V.ref (f i))))
    (h4 : ∀ i, i < R.lines.length → H (f i) = some (.lst [])) (n1 : p ≠ cs) (n2 : p ≠ rw) (n3 : cs ≠ rw) (n4 : ∀ i, i < R.lines.length → f i ≠ p ∧ f i ≠ cs ∧ f i ≠ rw) (inj : ∀ i j, i < R.lines.length → j < R.lines.length → f i = f j → i = j) :
    LR kd (Geo.new p dx cs rw f ra) (LSt.begin R) H := by
  have len : (LSt.begin R).rows.length = R.lines.length := List.length_replicate ..
  constructor
  · intro i o ho
    cases i with
    | self => exact h1.trans ho
    | cards => exact h2.trans ho
    | rws =>
      refine h3.trans ?_
      rw [← ho]
      show _ = some (HO.lst ((List.range (LSt.begin R).rows.length).map fun i => V.ref (f i)))
      rw [len]
    | row j =>
      have ho' : ((LSt.begin R).rows[j]?).map (fun xs => HO.lst (xs.map V.int)) = some o := ho
      have hj : j < R.lines.length := by
        apply Classical.byContradiction
        intro z
        rw [List.getElem?_eq_none (by omega)] at ho'; cases ho'
      have : (LSt.begin R).rows[j]? = some [] := by
        show (List.replicate R.lines.length ([] : List Int))[j]? = some []
        rw [List.getElem?_replicate, if_pos hj]
      rw [this] at ho'
      exact (h4 j hj).trans ho'
    | card u => cases ho
    | spt u => cases ho
  · intro i j hi hj q
    cases i with
    | card u => exact absurd rfl hi
    | spt u => exact absurd rfl hi
    | self =>
      cases j with
      | card u => exact absurd rfl hj
      | spt u => exact absurd rfl hj
      | self => rfl
      | cards => exact absurd q n1
      | rws => exact absurd q n2
      | row b => exact absurd (Eq.symm q) (n4 b (by have hj' : b < (LSt.begin R).rows.length := hj; omega)).1
    | cards =>
      cases j with
      | card u => exact absurd rfl hj
      | spt u => exact absurd rfl hj
      | self => exact absurd (Eq.symm q) n1
      | cards => rfl
      | rws => exact absurd q n3
      | row b => exact absurd (Eq.symm q) (n4 b (by have hj' : b < (LSt.begin R).rows.length := hj; omega)).2.1
    | rws =>
      cases j with
      | card u => exact absurd rfl hj
      | spt u => exact absurd rfl hj
      | self => exact absurd (Eq.symm q) n2
      | cards => exact absurd (Eq.symm q) n3
      | rws => rfl
      | row b => exact absurd (Eq.symm q) (n4 b (by have hj' : b < (LSt.begin R).rows.length := hj; omega)).2.2
    | row b =>
      have hb : b < R.lines.length := by have hi' : b < (LSt.begin R).rows.length := hi; omega
      cases j with
      | card u => exact absurd rfl hj
      | spt u => exact absurd rfl hj
      | self => exact absurd q (n4 b hb).1
      | cards => exact absurd q (n4 b hb).2.1
      | rws => exact absurd q (n4 b hb).2.2
      | row d => rw [inj b d hb (by have hj' : d < (LSt.begin R).rows.length := hj; omega) q]
theorem foot_begin {R : Rul} {p dx cs rw ra b : Addr} {f : Nat → Addr} (h : Foot (Geo.new p dx cs rw f ra) (LSt.begin R) b) : b = p ∨ b = cs ∨ b = rw ∨ ∃ i, i < R.lines.length ∧ b = f i := by
  have len : (LSt.begin R).rows.length = R.lines.length := List.length_replicate ..
  obtain ⟨i, hi, rfl⟩ := h
  cases i with
  | self => exact .inl rfl
  | cards => exact .inr (.inl rfl)
  | rws => exact .inr (.inr (.inl rfl))
  | row j => exact .inr (.inr (.inr ⟨j, by have hi' : j < (LSt.begin R).rows.length := hi; omega, rfl⟩))
  | card u => exact absurd rfl hi
  | spt u => exact absurd rfl hi
section
variable {P : Program} {w : World} {K : PySem.W.Frag} {mg : Str → Option Value} {base : Heap} {a : Adr}
end
end Qn

namespace Qn
open PySem L2
local macro_rules | `(tactic| fail "ne") => `(tactic| first | assumption | (apply Ne.symm; assumption) | (apply ne_of_none; assumption; assumption) | (apply Ne.symm; apply ne_of_none; assumption; assumption) | (apply ne_of; assumption; assumption; (intro z; cases z)))
local macro_rules | `(tactic| fail "hp") => `(tactic| with_reducible first | assumption | apply upd_same | (apply upd_old; rotate_left; assumption; fail "hp") | (apply upd_oth; rotate_left; fail "ne"; fail "hp"))
local macro_rules | `(tactic| fail "sl") => `(tactic| with_reducible first | assumption | (apply SqL.of; fail "hp"))
local macro_rules | `(tactic| fail "st") => `(tactic| with_reducible first | assumption | (apply SqT.of; fail "hp"))
local macro_rules | `(tactic| fail "tx") => `(tactic| with_reducible first | assumption | (apply Txt.c_Reader; assumption) | (apply Txt.n_Reader_head; assumption) | (apply Txt.n_Reader_read_lines; assumption) | (apply Txt.n_Reader_read_tasks; assumption))
local macro_rules | `(tactic| fail "lk") => `(tactic| with_reducible first | assumption | apply lk_LF_rules | apply lk_LF_cards | apply lk_LF_rows | apply lk_LF_time | apply lk_CF_line | apply lk_CF_quantum | apply lk_CF_share | apply lk_CF_is_ready | apply lk_CF_spent | (apply lk_LF_no; decide +kernel; decide +kernel; decide +kernel; decide +kernel))
local macro_rules | `(tactic| fail "at") => `(tactic| with_reducible first | assumption | apply mc_0 | apply mc_1 | apply mc_2 | apply mc_3 | apply mc_4 | apply at_0 | apply at_1 | apply at_2 | apply at_3 | apply at_4 | (apply atI_nat; assumption) | (apply at_z; assumption))
local macro_rules | `(tactic| fail "go") => `(tactic| repeat (first
  | apply rd_step
  | with_reducible (first
    | (apply r_kFld; fail "hp"; fail "tx"; fail "tx"; fail "lk")
    | (apply r_ixL; fail "sl"; fail "at") | (apply r_ixT; fail "st"; fail "at")
    | (apply r_kMeth; fail "hp"; fail "lk") | (apply r_kBML; fail "sl")
    | (apply r_lenL; fail "sl") | (apply r_lenT; fail "st") | (apply r_lenD; fail "hp")
    | (apply r_kDGetI; fail "hp"; (first | assumption | rfl)) | (apply r_kDGetS; fail "hp"; (first | assumption | apply mv_rules | apply mv_rows | apply mv_cards | apply mv_now)) | (apply r_kDInI; fail "hp") | (apply r_kDNotInI; fail "hp")
    | (apply r_kAugF; fail "hp"; fail "tx"; fail "tx"; fail "lk")
    | (apply r_isi_tuple_tuple; fail "st") | (apply r_isi_list_tuple; fail "sl") | (apply r_isi_list_list; fail "sl") | (apply r_isi_tuple_list; fail "st")
    | (apply r_kUnT; fail "st"; with_unfolding_all rfl) | (apply r_kIL; fail "sl") | (apply r_kIT; fail "st") | (apply r_kIE; fail "st") )))
local macro_rules | `(tactic| fail "eg") => `(tactic| repeat (first
  | apply stp
  | (refine e_rul0 (fun _ => ?_))

  | (refine e_tup0 (fun _ => ?_)) ))
local macro_rules | `(tactic| fail "egs") => `(tactic| (try (with_reducible refine e_seq ?_)) <;> repeat (first
  | apply stp
  | (with_reducible refine e_seq ?_)
  | (refine e_rul0 (fun _ => ?_))

  | (refine e_tup0 (fun _ => ?_)) ))
theorem walk_r0 {n : Nat} : Walk (Itr 0 n) n (fun _ => True) (fun i H x H' => H' = H ∧ x = .int (i : Nat)) :=
  ⟨fun _ _ hi _ => hi, fun _ _ => Nat.le_refl _, fun i H x H' _ _ y => ⟨y.1, by rw [y.2, Int.zero_add]⟩⟩
theorem small_mul {i j : Int} (h1 : i.natAbs < 2 ^ 60) (h2 : j.natAbs < 2 ^ 60) : IntMulOk i j := (L2.wide_mul h1 h2 (by decide) (by decide) (by decide)).ok
theorem small_div {i j : Int} (h : 0 < j) (h2 : j < 2 ^ 60) : CDivW i j := L2.wide_div (b := 60) h (by omega) (by decide) (by decide)
/-- the law's box of draws -/
structure Box (p q : Addr) (H : Hp) : Prop where
  ne : p ≠ q
  both : ∃ (z : Int) (xs : List Int), H p = some (.lst [.ref q, .int z]) ∧ H q = some (.lst (xs.map V.int)) ∧ xs.length < 100000 ∧ 0 ≤ z ∧ z < 2147483647
def BoxF (p q : Addr) : Addr → Prop := fun b => b = p ∨ b = q
theorem Box.same {p q : Addr} {H H' : Hp} (b : Box p q H) (s : Same H H') : Box p q H' := by
  obtain ⟨z, xs, h1, h2, h3⟩ := b.both
  exact ⟨b.ne, z, xs, s _ _ h1, s _ _ h2, h3⟩
theorem Box.frame {p q : Addr} {W : Addr → Prop} {H H' : Hp} (b : Box p q H) (s : Frame W H H') (d : ∀ b, W b → ¬ BoxF p q b) : Box p q H' := by
  obtain ⟨z, xs, h1, h2, h3⟩ := b.both
  exact ⟨b.ne, z, xs, s.1 _ _ h1 fun h => d _ h (.inl rfl), s.1 _ _ h2 fun h => d _ h (.inr rfl), h3⟩
theorem Box.own {p q b : Addr} {H : Hp} (x : Box p q H) (h : BoxF p q b) : ∃ o, H b = some o ∧ ∀ xs, o ≠ .tup xs := by
  obtain ⟨z, xs, h1, h2, h3⟩ := x.both
  rcases h with e | e
  · exact ⟨_, e ▸ h1, fun xs z => by cases z⟩
  · exact ⟨_, e ▸ h2, fun xs z => by cases z⟩
theorem Step.self {W : Addr → Prop} {H H' : Hp} (f : Frame W H H') : Step W H W H' := ⟨f, fun _ h => .inl h⟩
section
variable {P : Program} {w : World} {K : PySem.W.Frag} {mg : Str → Option Value} {base : Heap} {a : Adr}
def sp_law_take (K : PySem.W.Frag) (a : Adr) : Sp := sp2 fun x y H Q _ => ∃ p q m, x = .ref p ∧ y = .int m ∧ 0 < m ∧ m ≤ 1000000000000000000 ∧ Box p q H ∧ ∀ r H', 0 ≤ r → r < m → Box p q H' → Frame (BoxF p q) H H' → Q (.int r) H'
theorem ok_law_take (T : Txt K mg a) : Cal P w K mg base CX0 1 "_law_take" ["_law_box", "_law_many"] (sp_law_take K a) := by
  obtain ⟨fd, F, b⟩ := T.f_law_take
  refine ⟨a.law_take, fd, F.ok sc_law_take (fun vs H Q E h => sp2_len h) (fun cdv A outer s H vs Q E hr h => ?_), T.g_law_take, F.kp, b⟩
  refine ⟨_, (pss_cons (ps_if (pt_cmpR (op_eqD (by exact hr.units)) (pe_ix ix_list (pv 0) pe_int (fun _ _ => rfl)) (pe_lst pa_nil) (nomark _))
 (pss_cons (ps_asg (pe_op qo_mod (pe_op qo_mul (pe_ix ix_list (pv 0) pe_int (fun _ _ => rfl)) pe_int) pe_int) (pg_sub (pv 0) pe_int set_list))
 (pss_one (ps_ret (pe_op qo_mod (pe_op qo_div (pe_ix ix_list (pv 0) pe_int (fun _ _ => rfl)) pe_int) (pv 1)))))
 pss_nil)
 (pss_cons (ps_set (i := 2) sc_law_take.nd rfl (Or.inl rfl) (pe_ix ix_list (pe_ix ix_list (pv 0) pe_int (fun _ _ => rfl)) pe_int (fun _ _ => rfl)))
 (pss_cons (ps_asg (pe_op qo_div (pv 2) (pv 1)) (pg_sub (pe_ix ix_list (pv 0) pe_int (fun _ _ => rfl)) pe_int set_list))
 (pss_cons (ps_if (PW.pt (pw_or (pt_cmpR op_eq (pe_ix ix_list (pe_ix ix_list (pv 0) pe_int (fun _ _ => rfl)) pe_int (fun _ _ => rfl)) pe_int (nomark _)) (pw_or1 (pt_cmpR op_eq (pe_ix ix_list (pe_ix ix_list (pv 0) pe_int (fun _ _ => rfl)) pe_int (fun _ _ => rfl)) (pe_un un_neg pe_int) (nomark _)))))
 (pss_one (ps_expr (pe_bm PySem.F.plainAttrs_list PySem.F.slot_list_pop PySem.F.type_list_pop mt_popAt (pe_ix ix_list (pv 0) pe_int (fun _ _ => rfl)) (pa_cons pe_int pa_nil))))
 pss_nil)
 (pss_one (ps_ret (pe_op qo_mod (pv 2) (pv 1)))))))), ?_⟩
  try dsimp only [cxOf, Cx.nox, Cx.wish, List.map_cons, List.map_nil]
  obtain ⟨x, y, rfl, h⟩ := h
  rw [show L2.start N_law_take [x, y] = [some x, some y, none] from rfl]
  obtain ⟨p, q, m, rfl, rfl, m0, m1, B, k⟩ := h
  obtain ⟨z, xs, h1, h2, hz, z0, z1⟩ := B.both
  have ne := B.ne
  fail "go"
  refine r_kLst (by decide) fun e ne0 => ?_
  refine r_eqE_ints (SqL.of (upd_old h2 ne0)) (SqL.of upd_same) ?_
  have s1 : Same H (upd H e (.lst [])) := Same.upd ne0
  generalize upd H e (.lst []) = H1 at s1 ⊢
  have h1 := s1 _ _ h1
  have h2 := s1 _ _ h2
  fail "go"
  have setp : ∀ (z' : Int) (H' : Hp), H' p = some (.lst [.ref q, .int z]) → Frame (BoxF p q) H' (upd H' p (.lst ([V.ref q, V.int z].set 1 (.int z')))) := fun z' H' hp => Frame.put (.inl rfl) hp fun xs e => by cases e
  cases xs with
  | nil =>
    refine r_kT rfl ?_
    fail "go"
    refine r_mul (small_mul (by omega) (by omega)) ?_
    fail "go"
    refine r_mod (by omega) ?_
    fail "go"
    refine r_setL (n := 1) h1 rfl ?_
    have hp : upd H1 p (.lst ([V.ref q, V.int z].set 1 (.int (z * 48271 % 2147483647)))) p = some (.lst [V.ref q, .int (z * 48271 % 2147483647)]) := upd_same
    have hq : upd H1 p (.lst ([V.ref q, V.int z].set 1 (.int (z * 48271 % 2147483647)))) q = some (.lst []) := by rw [upd_ne (Ne.symm ne)]; exact h2
    have f1 := (Frame.of_same (W := BoxF p q) s1).trans (setp (z * 48271 % 2147483647) H1 h1)
    generalize upd H1 p (.lst ([V.ref q, V.int z].set 1 (.int (z * 48271 % 2147483647)))) = H2 at hp hq f1 ⊢
    fail "go"
    refine r_div (small_div (by omega) (by omega)) ?_
    fail "go"
    refine r_mod m0 ?_
    exact k _ H2 (Int.emod_nonneg _ (by omega)) (Int.emod_lt_of_pos _ m0) ⟨ne, _, [], hp, hq, by simp, Int.emod_nonneg _ (by omega), Int.emod_lt_of_pos _ (by omega)⟩ f1
  | cons x r =>
    refine r_kF rfl ?_
    fail "go"
    rw [List.map_cons] at h2
    fail "go"
    refine r_div (small_div m0 (by omega)) ?_
    fail "go"
    refine r_setL (n := 0) h2 (by unfold ixN; rw [if_pos (by omega), if_pos (by simp)]; rfl) ?_
    have hp : upd H1 q (.lst ((V.int x :: r.map V.int).set 0 (.int (x / m)))) p = some (.lst [V.ref q, .int z]) := by rw [upd_ne ne]; exact h1
    have hq : upd H1 q (.lst ((V.int x :: r.map V.int).set 0 (.int (x / m)))) q = some (.lst (.int (x / m) :: r.map V.int)) := upd_same
    have f1 : Frame (BoxF p q) H (upd H1 q (.lst ((V.int x :: r.map V.int).set 0 (.int (x / m))))) := (Frame.of_same (W := BoxF p q) s1).trans (Frame.put (.inr rfl) h2 fun xs e => by cases e)
    generalize upd H1 q (.lst ((V.int x :: r.map V.int).set 0 (.int (x / m)))) = H2 at hp hq f1 ⊢
    have hz' : r.length < 100000 := by simp at hz; omega
    have B2 : Box p q H2 := ⟨ne, z, x / m :: r, hp, hq, hz, z0, z1⟩
    have fin : ∀ H3, Box p q H3 → Frame (BoxF p q) H H3 → (tOp oMod (tVar 2) (tVar 1)) [some (.ref p), some (.int m), some (.int x)] H3 Q := fun H3 B3 f3 => by
      fail "go"
      refine r_mod m0 ?_
      exact k _ H3 (Int.emod_nonneg _ (by omega)) (Int.emod_lt_of_pos _ m0) B3 f3
    have pops : tDrop (tBM K "list" rPopAt (tOp (rIxL K) (tVar 0) (tC (V.int 0))) (tCons (tC (V.int 0)) tNil)) { nx := tRet (tOp oMod (tVar 2) (tVar 1)) { nx := fun x H' => Q V.non H', rt := Q }, rt := Q } [some (.ref p), some (.int m), some (.int x)] H2 := by
      fail "go"
      refine ⟨q, _, 0, 0, _, rfl, rfl, hq, by decide, by decide, by simp [seqIndex?], rfl, ?_⟩
      refine fin _ ⟨ne, z, r, ?_, upd_same, hz', z0, z1⟩ (f1.trans (Frame.put (.inr rfl) hq fun xs e => by cases e))
      rw [upd_ne ne]; exact hp
    fail "go"
    refine r_kIf (fun h => ?_) (fun h => ?_)
    · exact r_kTT pops
    · fail "go"
      refine r_kIf (fun h => ?_) (fun h => ?_)
      · exact pops
      · refine r_next ?_
        exact fin H2 B2 f1
theorem sqL_same {H H' : Hp} {a : Addr} {xs : List V} (h : SqL K H a xs) (s : Same H H') : SqL K H' a xs := by
  rcases h with (h | ⟨o, h⟩) | h
  · exact .inl (.inl (s _ _ h))
  · exact .inl (.inr ⟨o, s _ _ h⟩)
  · exact .inr h
def sp_law_begun (K : PySem.W.Frag) (a : Adr) : Sp := sp1 fun x H Q _ => ∃ (s : Addr) (ns : List Int), x = .ref s ∧ SqL K H s (ns.map V.int) ∧ ns.length ≤ 1000 ∧ (∀ z ∈ ns, Builtin.Int.intBits z ≤ 1048576) ∧
  ∀ p q H', H p = none → H q = none → Same H H' → Box p q H' → Q (.ref p) H'
theorem cell_mul {z : Int} (h : Builtin.Int.intBits z ≤ 1048576) : IntMulOk z 69621 := IntMulOk.of_le (m := 1048576) (n := 17) h (by decide) (by decide)
theorem ok_law_begun (T : Txt K mg a) : Cal P w K mg base CX0 1 "_law_begun" ["_law_script"] (sp_law_begun K a) := by
  obtain ⟨fd, F, b⟩ := T.f_law_begun
  refine ⟨a.law_begun, fd, F.ok sc_law_begun (fun vs H Q E h => sp1_len h) (fun cdv A outer s H vs Q E hr h => ?_), T.g_law_begun, F.kp, b⟩
  refine ⟨_, (pss_cons (ps_set (i := 1) sc_law_begun.nd rfl (Or.inl rfl) pe_int)
 (pss_cons (ps_for PassesOwn.never rfl (pi_list (pv 0)) (pg_name (i := 2) sc_law_begun.nd rfl (Or.inl rfl))
 (pss_one (ps_set (i := 1) sc_law_begun.nd rfl (Or.inl rfl) (pe_op qo_mod (pe_op qo_add (pe_op qo_add (pe_op qo_mul (pv 1) pe_int) (pe_op qo_mul (pv 2) pe_int)) pe_int) pe_int))))
 (pss_one (ps_ret (pe_lst (pa_cons (pe_callTy qr_list (by rfl) T.z_list (by decide +kernel) (pa_cons (pv 0) pa_nil)) (pa_cons (pe_op qo_mul (pv 1) (pe_callTy qr_int (by rfl) T.z_int (by decide +kernel) (pa_cons (pe_cmpR qo_gt (pe_callB qr_len (by rfl) T.z_len (by decide +kernel) (pa_cons (pv 0) pa_nil)) pe_int (nomark _)) pa_nil))) pa_nil))))))), ?_⟩
  try dsimp only [cxOf, Cx.nox, Cx.wish, List.map_cons, List.map_nil]
  obtain ⟨x, rfl, h⟩ := h
  rw [show L2.start N_law_begun [x] = [some x, none, none] from rfl]
  obtain ⟨s, ns, rfl, hs, hn, hb, k⟩ := h
  fail "go"
  have w1 := walk_list (K := K) (a := s) (xs := ns.map V.int)
  rw [List.length_map] at w1
  refine w_for w1 (fun i σ H' => H' = H ∧ ∃ (z : Int) (v2 : Option V), σ = [some (.ref s), some (.int z), v2] ∧ 0 ≤ z ∧ z < 2147483647) ⟨rfl, 0, none, rfl, by omega, by omega⟩ (fun i σ H' hi q => by rw [q.1]; exact hs) ?_ ?_
  · rintro i x σ H1 H2 hi ⟨rfl, z, v2, rfl, z0, z1⟩ ⟨rfl, hx⟩
    rw [List.getElem?_map, List.getElem?_eq_getElem hi] at hx
    cases Option.some.inj hx
    have hc := hb _ (List.getElem_mem hi)
    generalize ns[i] = c at hc ⊢
    fail "go"
    refine r_mul (small_mul (by omega) (by omega)) ?_
    fail "go"
    refine r_mul (cell_mul hc) ?_
    fail "go"
    refine r_mod (by omega) ?_
    fail "go"
    exact ⟨rfl, _, _, rfl, Int.emod_nonneg _ (by omega), Int.emod_lt_of_pos _ (by omega)⟩
  · rintro σ H1 ⟨rfl, z, v2, rfl, z0, z1⟩
    fail "go"
    refine r_listL hs fun l nl => ?_
    have hs2 : SqL K (upd H1 l (.lst (ns.map V.int))) s (ns.map V.int) := sqL_same hs (Same.upd nl)
    have hl : upd H1 l (.lst (ns.map V.int)) l = some (.lst (ns.map V.int)) := upd_same
    have s2 : Same H1 (upd H1 l (.lst (ns.map V.int))) := Same.upd nl
    generalize upd H1 l (.lst (ns.map V.int)) = H2 at hs2 hl s2 ⊢
    fail "go"
    refine r_mul (small_mul (by omega) (by split <;> decide)) ?_
    fail "go"
    refine r_kLst (by simp) fun p np => ?_
    have np1 : H1 p = none := by
      cases e : H1 p with
      | none => rfl
      | some o => rw [s2 _ _ e] at np; cases np
    refine k p l _ np1 nl (s2.trans (Same.upd np)) ⟨(fun z => by rw [z, hl] at np; cases np), _, ns, upd_same, upd_old hl np, by omega, ?_, ?_⟩
    · split <;> omega
    · split <;> omega
end
end Qn

namespace Qn
open PySem L2
local macro_rules | `(tactic| fail "ne") => `(tactic| first | assumption | (apply Ne.symm; assumption) | (apply ne_of_none; assumption; assumption) | (apply Ne.symm; apply ne_of_none; assumption; assumption) | (apply ne_of; assumption; assumption; (intro z; cases z)))
local macro_rules | `(tactic| fail "hp") => `(tactic| with_reducible first | assumption | apply upd_same | (apply upd_old; rotate_left; assumption; fail "hp") | (apply upd_oth; rotate_left; fail "ne"; fail "hp"))
local macro_rules | `(tactic| fail "sl") => `(tactic| with_reducible first | assumption | (apply SqL.of; fail "hp"))
local macro_rules | `(tactic| fail "st") => `(tactic| with_reducible first | assumption | (apply SqT.of; fail "hp"))
local macro_rules | `(tactic| fail "tx") => `(tactic| with_reducible first | assumption | (apply Txt.c_Reader; assumption) | (apply Txt.n_Reader_head; assumption) | (apply Txt.n_Reader_read_lines; assumption) | (apply Txt.n_Reader_read_tasks; assumption))
local macro_rules | `(tactic| fail "lk") => `(tactic| with_reducible first | assumption | apply lk_LF_rules | apply lk_LF_cards | apply lk_LF_rows | apply lk_LF_time | apply lk_CF_line | apply lk_CF_quantum | apply lk_CF_share | apply lk_CF_is_ready | apply lk_CF_spent | (apply lk_LF_no; decide +kernel; decide +kernel; decide +kernel; decide +kernel))
local macro_rules | `(tactic| fail "at") => `(tactic| with_reducible first | assumption | apply mc_0 | apply mc_1 | apply mc_2 | apply mc_3 | apply mc_4 | apply at_0 | apply at_1 | apply at_2 | apply at_3 | apply at_4 | (apply atI_nat; assumption) | (apply at_z; assumption))
local macro_rules | `(tactic| fail "go") => `(tactic| repeat (first
  | apply rd_step
  | with_reducible (first
    | (apply r_kFld; fail "hp"; fail "tx"; fail "tx"; fail "lk")
    | (apply r_ixL; fail "sl"; fail "at") | (apply r_ixT; fail "st"; fail "at")
    | (apply r_kMeth; fail "hp"; fail "lk") | (apply r_kBML; fail "sl")
    | (apply r_lenL; fail "sl") | (apply r_lenT; fail "st") | (apply r_lenD; fail "hp")
    | (apply r_kDGetI; fail "hp"; (first | assumption | rfl)) | (apply r_kDGetS; fail "hp"; (first | assumption | apply mv_rules | apply mv_rows | apply mv_cards | apply mv_now)) | (apply r_kDInI; fail "hp") | (apply r_kDNotInI; fail "hp")
    | (apply r_kAugF; fail "hp"; fail "tx"; fail "tx"; fail "lk")
    | (apply r_isi_tuple_tuple; fail "st") | (apply r_isi_list_tuple; fail "sl") | (apply r_isi_list_list; fail "sl") | (apply r_isi_tuple_list; fail "st")
    | (apply r_kUnT; fail "st"; with_unfolding_all rfl) | (apply r_kIL; fail "sl") | (apply r_kIT; fail "st") | (apply r_kIE; fail "st") )))
local macro_rules | `(tactic| fail "eg") => `(tactic| repeat (first
  | apply stp
  | (refine e_rul0 (fun _ => ?_))

  | (refine e_tup0 (fun _ => ?_)) ))
local macro_rules | `(tactic| fail "egs") => `(tactic| (try (with_reducible refine e_seq ?_)) <;> repeat (first
  | apply stp
  | (with_reducible refine e_seq ?_)
  | (refine e_rul0 (fun _ => ?_))

  | (refine e_tup0 (fun _ => ?_)) ))
theorem Frame.late {W : Addr → Prop} {H H' : Hp} {p : Addr} {o : HO} (f : Frame W H H') (n : H p = none) : Frame W H (L2.upd H' p o) :=
  ⟨fun b v e nb => upd_oth (f.1 b v e nb) (fun z => by rw [z, n] at e; cases e), fun b xs e => upd_oth (f.2 b xs e) (fun z => by rw [z, n] at e; cases e)⟩
theorem Box.out {p q b : Addr} {H : Hp} (B : Box p q H) (n : H b = none) : ¬ BoxF p q b := fun h => by
  obtain ⟨o, e, _⟩ := B.own h
  rw [n] at e; cases e
theorem Box.new {p q b : Addr} {o : HO} {H : Hp} (B : Box p q H) (n : H b = none) : Box p q (upd H b o) := B.same (Same.upd n)
theorem Box.put {p q b : Addr} {o : HO} {H : Hp} (B : Box p q H) (n : ¬ BoxF p q b) : Box p q (upd H b o) := by
  obtain ⟨z, xs, h1, h2, h3⟩ := B.both
  exact ⟨B.ne, z, xs, by rw [upd_ne fun e => n (.inl e.symm)]; exact h1, by rw [upd_ne fun e => n (.inr e.symm)]; exact h2, h3⟩
theorem pick2 {u v : V} {r : Int} (h0 : 0 ≤ r) (h1 : r < 2) : atI [u, v] r = some (if decide (r = 0) then u else v) := by
  rcases (show r = 0 ∨ r = 1 by omega) with e | e
  · subst e; exact at_0
  · subst e; exact at_1
section
variable {P : Program} {w : World} {K : PySem.W.Frag} {mg : Str → Option Value} {base : Heap} {a : Adr} {p q : Addr} {H : Hp} {Q : VK} {E : XK} {σ : St}
theorem w_take {m : Int} (B : Box p q H) (m0 : 0 < m) (m1 : m ≤ 1000000000000000000) (k : ∀ r H', 0 ≤ r → r < m → Box p q H' → Frame (BoxF p q) H H' → Q (.int r) H') : sp_law_take K a [.ref p, .int m] H Q E :=
  ⟨_, _, rfl, p, q, m, rfl, rfl, m0, m1, B, k⟩
theorem w_pick {n : Nat} {u v : V} (hv : σ[n]? = some (some (.ref p))) (B : Box p q H) (k : ∀ (b : Bool) H', Box p q H' → Frame (BoxF p q) H H' → Q (if b then u else v) H') :
    kLst [u, v] H (fun x H1 => tCall (sp_law_take K a) [] E0 (tCons (tVar n) (tCons (tC (.int 2)) tNil)) σ H1 fun y H2 => rIxL K x y H2 Q) := by
  refine r_kLst (by simp) fun l nl => ?_
  refine ⟨_, hv, ?_⟩
  show tCons (tC (V.int 2)) tNil σ _ _
  refine rd_step ?_
  refine rd_step ?_
  refine rd_step ?_
  refine w_take (m := 2) (B.new nl) (by omega) (by omega) fun r H1 r0 r1 B1 f1 => ?_
  have hl : H1 l = some (.lst [u, v]) := f1.1 _ _ upd_same (B.out nl)
  refine r_ixL (SqL.of hl) (pick2 r0 r1) ?_
  exact k _ H1 B1 ((Frame.new nl).trans f1)
def goodP (x : Int × Int) : Prop := 1 ≤ x.1 ∧ x.1 ≤ 8 ∧ x.1 ≤ x.2 ∧ x.2 ≤ 40
def sp_law_rules (K : PySem.W.Frag) (a : Adr) : Sp := sp1 fun x H Q _ => ∃ p q, x = .ref p ∧ Box p q H ∧ ∀ ra R la ps H', RulAt H' ra R la ps → R.Ok → Box p q H' → Frame (BoxF p q) H H' → Q (.ref ra) H'
theorem ok_law_rules (T : Txt K mg a) : Cal P w K mg base CX0 2 "_law_rules" ["_law_box"] (sp_law_rules K a) := by
  obtain ⟨fd, F, b⟩ := T.f_law_rules
  refine ⟨a.law_rules, fd, F.ok sc_law_rules (fun vs H Q E h => sp1_len h) (fun cdv A outer s H vs Q E hr h => ?_), T.g_law_rules, F.kp, b⟩
  refine ⟨_, (pss_cons (ps_set (i := 1) sc_law_rules.nd rfl (Or.inl rfl) (pe_lst pa_nil))
 (pss_cons (ps_for PassesOwn.never rfl (pi_range1 rfl T.z_range (pa_cons (pe_op qo_add pe_int (q_call (ok_law_take T) (hr.mono (by decide)) pass0 (pa_cons (pv 0) (pa_cons pe_int pa_nil)))) pa_nil)) (pg_name (i := 2) sc_law_rules.nd rfl (Or.inl rfl))
 (pss_cons (ps_set (i := 3) sc_law_rules.nd rfl (Or.inl rfl) (pe_op qo_add pe_int (q_call (ok_law_take T) (hr.mono (by decide)) pass0 (pa_cons (pv 0) (pa_cons (pe_ix ix_list (pe_lst (pa_cons pe_int (pa_cons pe_int pa_nil))) (q_call (ok_law_take T) (hr.mono (by decide)) pass0 (pa_cons (pv 0) (pa_cons pe_int pa_nil))) (fun _ _ => rfl)) pa_nil)))))
 (pss_one (ps_expr (pe_bm PySem.F.plainAttrs_list PySem.F.slot_list_append PySem.F.type_list_append mt_append (pv 1) (pa_cons (pe_tup (pa_cons (pv 3) (pa_cons (pe_op qo_add (pv 3) (q_call (ok_law_take T) (hr.mono (by decide)) pass0 (pa_cons (pv 0) (pa_cons (pe_ix ix_list (pe_lst (pa_cons pe_int (pa_cons (pe_op qo_sub pe_int (pv 3)) pa_nil))) (q_call (ok_law_take T) (hr.mono (by decide)) pass0 (pa_cons (pv 0) (pa_cons pe_int pa_nil))) (fun _ _ => rfl)) pa_nil)))) pa_nil))) pa_nil))))))
 (pss_cons (ps_set (i := 4) sc_law_rules.nd rfl (Or.inl rfl) (pe_ix ix_list (pe_lst (pa_cons pe_non (pa_cons (pe_op qo_add pe_int (q_call (ok_law_take T) (hr.mono (by decide)) pass0 (pa_cons (pv 0) (pa_cons (pe_ix ix_list (pe_lst (pa_cons pe_int (pa_cons pe_int pa_nil))) (q_call (ok_law_take T) (hr.mono (by decide)) pass0 (pa_cons (pv 0) (pa_cons pe_int pa_nil))) (fun _ _ => rfl)) pa_nil)))) pa_nil))) (q_call (ok_law_take T) (hr.mono (by decide)) pass0 (pa_cons (pv 0) (pa_cons pe_int pa_nil))) (fun _ _ => rfl)))
 (pss_one (ps_ret (pe_tup (pa_cons (pe_callTy qr_tuple (by rfl) T.z_tuple (by decide +kernel) (pa_cons (pv 1) pa_nil)) (pa_cons (pv 4) (pa_cons (pe_ix ix_list (pe_lst (pa_cons pe_str (pa_cons pe_str pa_nil))) (q_call (ok_law_take T) (hr.mono (by decide)) pass0 (pa_cons (pv 0) (pa_cons pe_int pa_nil))) (fun _ _ => rfl)) pa_nil))))))))), ?_⟩
  try dsimp only [cxOf, Cx.nox, Cx.wish, List.map_cons, List.map_nil]
  obtain ⟨x, rfl, h⟩ := h
  rw [show L2.start N_law_rules [x] = [some x, none, none, none, none] from rfl]
  obtain ⟨p, q, rfl, B, k⟩ := h
  fail "go"
  refine r_kLst (by simp) fun L nL => ?_
  have oL := B.out nL
  have B0 : Box p q (upd H L (.lst [])) := B.new nL
  have hL0 : upd H L (.lst []) L = some (.lst []) := upd_same
  have f0 : Frame (BoxF p q) H (upd H L (.lst [])) := Frame.new nL
  generalize upd H L (.lst []) = H0 at B0 hL0 f0 ⊢
  fail "go"
  refine w_take B0 (by omega) (by omega) fun n H1 n0 n1 B1 f1 => ?_
  have hL1 : H1 L = some (.lst []) := f1.1 _ _ hL0 oL
  have f1 := f0.trans f1
  fail "go"
  refine r_kIR1 (by omega) ?_
  refine w_for walk_r0 (fun i σ H' => ∃ v2 v3 ps prs, σ = [some (.ref p), some (.ref L), v2, v3, none] ∧ Box p q H' ∧ Frame (BoxF p q) H H' ∧ H' L = some (.lst (ps.map V.ref)) ∧ ps.length = i ∧ prs.length = i ∧ (∀ x ∈ prs, goodP x) ∧
      ∀ (j : Nat) (x : Addr), ps[j]? = some x → H' x = some (.tup [.int (prs.getD j (0, 0)).1, .int (prs.getD j (0, 0)).2])) ⟨none, none, [], [], rfl, B1, f1, hL1, rfl, rfl, (fun x h => by cases h), (fun j x e => by cases e)⟩ (fun _ _ _ _ _ => trivial) ?_ ?_
  · rintro i x σ H2 H3 hi ⟨v2, v3, ps, prs, rfl, B2, f2, hL2, l1, l2, gd, pr⟩ ⟨rfl, rfl⟩
    fail "go"
    refine w_pick (by rfl) B2 fun b1 H4 B4 f4 => ?_
    fail "go"
    have e4 : (if b1 then V.int 3 else V.int 8) = V.int (if b1 then 3 else 8) := by cases b1 <;> rfl
    rw [e4]
    refine w_take B4 (by split <;> omega) (by split <;> omega) fun r H5 r0 r1 B5 f5 => ?_
    have r1 : r < 8 := by split at r1 <;> omega
    have hL5 : H5 L = some (.lst (ps.map V.ref)) := (f4.trans f5).1 _ _ hL2 oL
    fail "go"
    refine w_pick (by rfl) B5 fun b2 H6 B6 f6 => ?_
    have e6 : (if b2 then V.int 4 else V.int (41 - (1 + r))) = V.int (if b2 then 4 else 41 - (1 + r)) := by cases b2 <;> rfl
    rw [e6]
    fail "go"
    refine w_take B6 (by split <;> omega) (by split <;> omega) fun s H7 s0 s1 B7 f7 => ?_
    have s1 : 1 + r + s ≤ 40 := by split at s1 <;> omega
    have f : Frame (BoxF p q) H3 H7 := ((f4.trans f5).trans f6).trans f7
    have hL7 : H7 L = some (.lst (ps.map V.ref)) := f.1 _ _ hL2 oL
    fail "go"
    refine r_kTup (by simp) fun t nt => ?_
    have f8 : Frame (BoxF p q) H3 (upd H7 t (.tup [.int (1 + r), .int (1 + r + s)])) := f.trans (Frame.new nt)
    have hL8 := upd_old (o' := .tup [.int (1 + r), .int (1 + r + s)]) hL7 nt
    have ht8 : upd H7 t (.tup [.int (1 + r), .int (1 + r + s)]) t = _ := upd_same
    have B8 : Box p q (upd H7 t (.tup [.int (1 + r), .int (1 + r + s)])) := B7.new nt
    generalize upd H7 t (.tup [.int (1 + r), .int (1 + r + s)]) = H8 at f8 hL8 ht8 B8 ⊢
    fail "go"
    refine r_append hL8 (by rw [List.length_map]; omega) ?_
    have tup8 : ∀ b xs, H8 b = some (.tup xs) → upd H8 L (.lst (ps.map V.ref ++ [V.ref t])) b = some (.tup xs) := fun b xs e => upd_oth e fun z => by rw [z, hL8] at e; cases e
    refine ⟨_, _, ps ++ [t], prs ++ [(1 + r, 1 + r + s)], rfl, B8.put oL, (f2.trans f8).late nL, by rw [upd_same, List.map_append]; rfl, by simp [l1], by simp [l2], fun x hx => ?_, fun j x e => ?_⟩
    · rcases List.mem_append.mp hx with z | z
      · exact gd x z
      · rw [List.mem_singleton] at z
        rw [z]
        exact ⟨by show 1 ≤ 1 + r; omega, by show 1 + r ≤ 8; omega, by show 1 + r ≤ 1 + r + s; omega, s1⟩
    · by_cases hj : j < ps.length
      · rw [List.getElem?_append_left hj] at e
        have := f8.2 _ _ (pr j x e)
        rw [show (prs ++ [(1 + r, 1 + r + s)]).getD j (0, 0) = prs.getD j (0, 0) by simp [List.getD, List.getElem?_append_left (show j < prs.length by omega)]]
        exact tup8 _ _ this
      · have ej : j = i := by
          have := (List.getElem?_eq_some_iff.mp e).1
          simp at this; omega
        subst ej
        rw [List.getElem?_append_right (by omega), l1, Nat.sub_self] at e
        cases Option.some.inj e
        rw [show (prs ++ [(1 + r, 1 + r + s)]).getD j (0, 0) = (1 + r, 1 + r + s) by simp [List.getD, List.getElem?_append_right (show prs.length ≤ j by omega), l2]]
        exact tup8 _ _ ht8
  · rintro σ H2 ⟨v2, v3, ps, prs, rfl, B2, f2, hL2, l1, l2, gd, pr⟩
    have hn : (1 + n).toNat ≤ 4 ∧ 1 ≤ (1 + n).toNat := by omega
    fail "go"
    refine w_pick (by rfl) B2 fun b1 H4 B4 f4 => ?_
    have e4 : (if b1 then V.int 8 else V.int 96) = V.int (if b1 then 8 else 96) := by cases b1 <;> rfl
    rw [e4]
    fail "go"
    refine w_take B4 (by split <;> omega) (by split <;> omega) fun r H5 r0 r1 B5 f5 => ?_
    have r1 : r < 96 := by split at r1 <;> omega
    fail "go"
    refine w_pick (by rfl) B5 fun b2 H6 B6 f6 => ?_
    have e6 : (if b2 then V.non else V.int (5 + r)) = bV (if b2 then none else some (5 + r)) := by cases b2 <;> rfl
    rw [e6]
    have f : Frame (BoxF p q) H2 H6 := (f4.trans f5).trans f6
    have hL6 : H6 L = some (.lst (ps.map V.ref)) := f.1 _ _ hL2 oL
    fail "go"
    refine r_tupleL (SqL.of hL6) fun la nla => ?_
    have fa : Frame (BoxF p q) H2 (upd H6 la (.tup (ps.map V.ref))) := f.trans (Frame.new nla)
    have hla : upd H6 la (.tup (ps.map V.ref)) la = _ := upd_same
    have Ba := B6.new (o := .tup (ps.map V.ref)) nla
    generalize upd H6 la (.tup (ps.map V.ref)) = H7 at fa hla Ba ⊢
    fail "go"
    refine w_pick (by rfl) Ba fun b3 H8 B8 f8 => ?_
    have e8 : (if b3 then V.str "kept" else V.str "anew") = V.str (chS b3) := by cases b3 <;> rfl
    rw [e8]
    fail "go"
    refine r_kTup (by simp) fun ra nra => ?_
    have f9 : Frame (BoxF p q) H2 (upd H8 ra (.tup [V.ref la, bV (if b2 then none else some (5 + r)), V.str (chS b3)])) := (fa.trans f8).trans (Frame.new nra)
    refine k ra ⟨prs, if b2 then none else some (5 + r), b3⟩ la ps _ ⟨upd_same, upd_old (f8.2 _ _ hla) nra, by rw [l1]; exact l2.symm, fun i x e => f9.2 _ _ (pr i x e)⟩ ⟨by show 1 ≤ prs.length; omega, by show prs.length ≤ 4; omega, gd, fun b hb => ?_⟩ (B8.new nra) (f2.trans f9)
    cases b2 with
    | true => cases hb
    | false => cases Option.some.inj hb; omega
end
end Qn

/-! S2: the box, rules, lines, alike, by parts. -/
namespace Qn
open PySem L2
/-- the tuples of a heap -/
def tups (H : Hp) : Hp := fun a => match H a with
  | some (.tup xs) => some (.tup xs)
  | _ => none
theorem tups_of {H : Hp} {a : Addr} {xs : List V} (h : H a = some (.tup xs)) : tups H a = some (.tup xs) := by unfold tups; rw [h]
theorem tups_sub {H : Hp} : Same (tups H) H := fun a o e => by
  unfold tups at e
  split at e
  · rename_i xs h; rw [h]; exact e
  · cases e
theorem tups_tup {H : Hp} {b : Addr} (h : tups H b ≠ none) : ∃ xs, tups H b = some (.tup xs) := by
  unfold tups at h ⊢
  split
  · exact ⟨_, rfl⟩
  · rename_i n
    split at h
    · rename_i xs h2; exact absurd h2 (n xs)
    · exact absurd rfl h
theorem RulAt.tups {H : Hp} {ra la : Addr} {R : Rul} {ps : List Addr} (h : RulAt H ra R la ps) : RulAt (Qn.tups H) ra R la ps := ⟨tups_of h.rules, tups_of h.lines, h.len, fun i p e => tups_of (h.pair i p e)⟩
section
variable {P P' F : List As} {A : As} {H H' : Hp}
theorem tups_off {h : Hp} (s : Same h H) (n : NoTup h) : Apart (tups H) h := fun b => by
  cases e : h b with
  | none => exact .inr rfl
  | some o =>
    refine .inl ?_
    cases q : tups H b with
    | none => rfl
    | some u =>
      obtain ⟨xs, z⟩ := tups_tup (H := H) (b := b) (by rw [q]; simp)
      have e1 := s _ _ e
      rw [tups_sub _ _ z] at e1
      exact absurd e (by rw [← Option.some.inj e1]; exact n b xs)
theorem tups_k {k : Hp} (s : Same k H) : Same (tups H) (hor k (tups H)) := fun b o e => by
  cases z : k b with
  | none => rw [hor_r z]; exact e
  | some u =>
    have e1 := s _ _ z
    rw [tups_sub _ _ e] at e1
    rw [hor_l z, e1]
/-- what is new, and tuples -/
theorem Sat.add {hA : Hp} (s : Sat P H) (z : Same H H') (sA : Same hA H') (fr : ∀ b, hA b ≠ none → H b = none) (nt : NoTup hA) (hp : A.p (tups H') hA) : Sat (A :: P) H' := by
  obtain ⟨k, h, s1, s2, x, n, y⟩ := s
  have ak : Apart k hA := fun b => by
    cases e : hA b with
    | none => exact .inr rfl
    | some o => exact .inl (s1.free (fr b (by rw [e]; simp)))
  have ah : Apart hA h := fun b => by
    cases e : hA b with
    | none => exact .inl rfl
    | some o => exact .inr (s2.free (fr b (by rw [e]; simp)))
  refine ⟨hor k (tups H'), hor hA h, hor_sub (s1.trans z) tups_sub, hor_sub sA (s2.trans z), ?_, noTup_hor nt n, hA, h, same_hor_l, same_hor_r ah, ah, A.mono (tups_k (s1.trans z)) hp, y.mono same_hor_l⟩
  exact hor_apart (hor_apart ak.symm x.symm).symm (hor_apart (tups_off sA nt).symm (tups_off (s2.trans z) n).symm).symm
/-- of a heap the cells of W -/
noncomputable def cutH (W : Addr → Prop) (H : Hp) : Hp := fun a => open Classical in if W a then H a else none
theorem cutH_in {W : Addr → Prop} {a : Addr} (h : W a) : cutH W H a = H a := by unfold cutH; rw [if_pos h]
theorem cutH_out {W : Addr → Prop} {a : Addr} (h : ¬ W a) : cutH W H a = none := by unfold cutH; rw [if_neg h]
theorem cutH_sub {W : Addr → Prop} : Same (cutH W H) H := fun a o e => by
  by_cases h : W a
  · rw [cutH_in h] at e; exact e
  · rw [cutH_out h] at e; cases e
theorem cutH_ne {W : Addr → Prop} {a : Addr} (h : cutH W H a ≠ none) : W a := Classical.byContradiction fun z => h (cutH_out z)
/-- an owned part goes over into another one, in what is its own or new; tuples may be new -/
theorem Sat.open (s : Sat (A :: F) H) : ∃ k h, Same k H ∧ Same h H ∧ A.p k h ∧ ∀ (B : As) (W W' : Addr → Prop) (H' : Hp), (∀ b, W b → h b ≠ none) →
    Step W H W' H' → (∀ b, W' b → ∀ xs, H' b ≠ some (.tup xs)) → (∀ k', Same k k' → Same (tups H') k' → B.p k' (cutH W' H')) → Sat (B :: F) H' := by
  obtain ⟨k, h, s1, s2, ap, nt, pA, cl⟩ := s.part
  refine ⟨k, h, s1, s2, pA, fun B W W' H' wh S own hp => ?_⟩
  have kH : Same k H' := fun b o e => S.1.1 b o (s1 _ _ e) fun w => by
    rcases ap b with z | z
    · rw [z] at e; cases e
    · exact wh b w z
  have n' : NoTup (cutH W' H') := fun b xs e => by
    by_cases w : W' b
    · rw [cutH_in w] at e; exact own b w xs e
    · rw [cutH_out w] at e; cases e
  have new : ∀ b, cutH W' H' b ≠ none → h b ≠ none ∨ H b = none := fun b n => (S.2 b (cutH_ne n)).imp (wh b) id
  refine cl [B] H' (hor k (tups H')) (cutH W' H') same_hor_l (hor_sub kH tups_sub) cutH_sub ?_ n' ⟨cutH W' H', hnil, Same.refl _, same_nil, fun _ => .inr rfl, hp _ same_hor_l (tups_k kH), trivial⟩ (fun b o e z => S.1.1 b o e fun w => wh b w z) (fun b n => ?_) new
  · refine hor_apart (fun b => ?_) (tups_off cutH_sub n')
    by_cases c : cutH W' H' b = none
    · exact .inr c
    · refine .inl ?_
      rcases new b c with z | z
      · exact (ap b).resolve_right z
      · exact s1.free z
  · by_cases z : k b = none
    · rw [hor_r z] at n
      obtain ⟨xs, q⟩ := tups_tup n
      exact .inr (.inr (.inr ⟨xs, by rw [hor_r z]; exact q⟩))
    · exact .inr (.inl z)
end
/-! ### rules -/
def RulX (R : Rul) : Ty := fun v => ⟨fun k _ => ∃ ra la ps, v = .ref ra ∧ RulAt k ra R la ps, fun s ⟨ra, la, ps, e, x⟩ => ⟨ra, la, ps, e, x.same s⟩⟩
def RlsX (R : Rul) : Ty := fun v => ⟨fun k _ => ∃ (la : Addr) (ps : List Addr), v = .ref la ∧ k la = some (.tup (ps.map V.ref)) ∧ ps.length = R.lines.length ∧ ∀ i p, ps[i]? = some p → k p = some (.tup [.int (R.q i), .int (R.s i)]),
  fun s ⟨la, ps, e, h1, h2, h3⟩ => ⟨la, ps, e, s _ _ h1, h2, fun i p q => s _ _ (h3 i p q)⟩⟩
instance pers_rul {R : Rul} : Pers (RulX R) := ⟨fun _ _ _ x => x⟩
instance pers_rls {R : Rul} : Pers (RlsX R) := ⟨fun _ _ _ x => x⟩
/-- what is known for good of one value, of another -/
theorem Sat.know {P F : List As} {X : Ty} {B : As} {v : V} {H : Hp} [t : Take P v X F] (s : Sat P H) (f : ∀ k h, (X v).p k h → B.p k hnil) : Sat (B :: P) H := by
  obtain ⟨k, h, s1, s2, x, n, y⟩ := s
  obtain ⟨h1, h2, t1, t2, z, pA, pF⟩ := t.tk _ _ y
  exact ⟨k, h, s1, s2, x, n, hnil, h, same_nil, Same.refl _, apart_nil, f _ _ pA, y⟩
/-- what is told of k -/
theorem Sat.tell {P F : List As} {X : Ty} {v : V} {H : Hp} [t : Take P v X F] (s : Sat P H) : ∃ k h, Same k H ∧ Same h H ∧ Apart k h ∧ (X v).p k h := by
  obtain ⟨k, h, s1, s2, x, n, y⟩ := s
  obtain ⟨h1, h2, t1, t2, z, pA, pF⟩ := t.tk _ _ y
  exact ⟨k, h1, s1, t1.trans s2, x.sub (Same.refl _) t1, pA⟩
section
variable {P F : List As} {K : PySem.W.Frag} {σ : St} {Q : VK} {a p : Addr} {R : Rul} {l : Nat} {v : V}
theorem e_rul0 [t : Take P (.ref p) (RulX R) F] (k : ∀ la, Ent (At (.ref la) (RlsX R) :: P) (fun H => Q (.ref la) H)) : Ent P (fun H => rIxT K (.ref p) (.int 0) H Q) := fun H s => by
  obtain ⟨g, h, s1, s2, x, ra, la, ps, e, r⟩ := s.tell (t := t)
  cases e
  refine r_ixT (SqT.of (s1 _ _ r.rules)) at_0 (k la H ?_)
  exact s.learn (k2 := tups g) (tups_sub.trans s1) (fun b n => tups_tup n) ⟨la, ps, rfl, tups_of r.lines, r.len, fun i p q => tups_of (r.pair i p q)⟩
theorem e_rul1 [t : Take P (.ref p) (RulX R) F] (k : Ent P (fun H => Q (bV R.boost) H)) : Ent P (fun H => rIxT K (.ref p) (.int 1) H Q) := fun H s => by
  obtain ⟨g, h, s1, s2, x, ra, la, ps, e, r⟩ := s.tell (t := t)
  cases e
  exact r_ixT (SqT.of (s1 _ _ r.rules)) at_1 (k H s)
theorem e_rul2 [t : Take P (.ref p) (RulX R) F] (k : Ent P (fun H => Q (.str (chS R.kept)) H)) : Ent P (fun H => rIxT K (.ref p) (.int 2) H Q) := fun H s => by
  obtain ⟨g, h, s1, s2, x, ra, la, ps, e, r⟩ := s.tell (t := t)
  cases e
  exact r_ixT (SqT.of (s1 _ _ r.rules)) at_2 (k H s)
instance sp_rul1 [t : Take P (.ref p) (RulX R) F] : Stp P (fun H => rIxT K (.ref p) (.int 1) H Q) P (fun H => Q (bV R.boost) H) := ⟨e_rul1⟩
instance sp_rul2 [t : Take P (.ref p) (RulX R) F] : Stp P (fun H => rIxT K (.ref p) (.int 2) H Q) P (fun H => Q (.str (chS R.kept)) H) := ⟨e_rul2⟩
theorem e_rls [t : Take P (.ref p) (RlsX R) F] (hl : l < R.lines.length) (k : ∀ q, Ent (At (.ref q) (KTup [.int (R.q l), .int (R.s l)]) :: P) (fun H => Q (.ref q) H)) : Ent P (fun H => rIxT K (.ref p) (.int (l : Nat)) H Q) := fun H s => by
  obtain ⟨g, h, s1, s2, x, la, ps, e, h1, h2, h3⟩ := s.tell (t := t)
  cases e
  have hl' : l < ps.length := by omega
  refine r_ixT (SqT.of (s1 _ _ h1)) (atI_nat (by rw [List.getElem?_map, List.getElem?_eq_getElem hl']; rfl)) (k _ H ?_)
  exact s.learn (k2 := tups g) (tups_sub.trans s1) (fun b n => tups_tup n) ⟨_, rfl, tups_of (h3 l _ (List.getElem?_eq_getElem hl'))⟩
theorem e_rls0 [t : Take P (.ref p) (RlsX R) F] (ok : R.Ok) (k : ∀ q, Ent (At (.ref q) (KTup [.int (R.q 0), .int (R.s 0)]) :: P) (fun H => Q (.ref q) H)) : Ent P (fun H => rIxT K (.ref p) (.int 0) H Q) := e_rls (l := 0) ok.one k
instance sp_lenRls [t : Take P (.ref p) (RlsX R) F] : Stp P (fun H => cLen K [.ref p] H Q) P (fun H => Q (.int R.lines.length) H) := ⟨fun e H s => by
  obtain ⟨g, h, s1, s2, x, la, ps, e', h1, h2, h3⟩ := s.tell (t := t)
  cases e'
  refine r_lenT (SqT.of (s1 _ _ h1)) ?_
  rw [List.length_map, h2]
  exact e H s⟩
end
/-! ### the box -/
def BoxX : Ty := fun v => ⟨fun _ h => ∃ p q, v = .ref p ∧ Box p q h, fun _ x => x⟩
theorem Box.foot {p q b : Addr} {H : Hp} (x : Box p q H) (h : BoxF p q b) : H b ≠ none := fun z => by
  obtain ⟨o, e, _⟩ := x.own h
  rw [z] at e; cases e
theorem Box.cut {p q : Addr} {H : Hp} (x : Box p q H) : Box p q (cutH (BoxF p q) H) := by
  obtain ⟨z, xs, h1, h2, h3⟩ := x.both
  exact ⟨x.ne, z, xs, by rw [cutH_in (.inl rfl)]; exact h1, by rw [cutH_in (.inr rfl)]; exact h2, h3⟩
theorem Sat.box {F : List As} {p : Addr} {H : Hp} (s : Sat (At (.ref p) BoxX :: F) H) : ∃ q, Box p q H ∧ ∀ H', Box p q H' → Frame (BoxF p q) H H' → Sat (At (.ref p) BoxX :: F) H' := by
  obtain ⟨k, h, s1, s2, ⟨p', q, e, B⟩, cl⟩ := s.open
  cases e
  refine ⟨q, B.same s2, fun H' B' f => cl _ _ _ H' (fun b w => B.foot w) (Step.self f) (fun b w xs e => ?_) fun k' _ _ => ⟨p, q, rfl, B'.cut⟩⟩
  obtain ⟨o, e1, n⟩ := B'.own w
  rw [e] at e1
  exact n xs (Option.some.inj e1).symm
/-! ### lines -/
def KdX (kd : Kd) (R : Rul) (S : LSt) : Ty := fun v => ⟨fun k h => ∃ g : Geo, v = .ref (g.adr .self) ∧ LR kd g S h ∧ (∃ la ps, RulAt k g.ra R la ps) ∧ R.Ok ∧ Wf R.lines.length [] S,
  fun s ⟨g, e, L, ⟨la, ps, r⟩, o, w⟩ => ⟨g, e, L, ⟨la, ps, r.same s⟩, o, w⟩⟩
theorem LR.foot {kd : Kd} {g : Geo} {S : LSt} {H : Hp} (h : LR kd g S H) {b : Addr} (w : Foot g S b) : H b ≠ none := fun z => by
  obtain ⟨o, e, _⟩ := h.owned w
  rw [z] at e; cases e
theorem LR.cut {kd : Kd} {g : Geo} {S : LSt} {H : Hp} (h : LR kd g S H) : LR kd g S (cutH (Foot g S) H) := h.keep fun b w => cutH_in w
theorem LR.notup {kd : Kd} {g : Geo} {S : LSt} {H : Hp} (h : LR kd g S H) {b : Addr} (w : Foot g S b) (xs : List V) : H b ≠ some (.tup xs) := fun e => by
  obtain ⟨o, e1, n⟩ := h.owned w
  rw [e] at e1
  exact n xs (Option.some.inj e1).symm
theorem Sat.kd {F : List As} {kd : Kd} {R : Rul} {S : LSt} {x : Addr} {H : Hp} (s : Sat (At (.ref x) (KdX kd R S) :: F) H) : ∃ g, x = g.adr .self ∧ LA kd (Foot g S) H g R S H ∧
    ∀ g' S' H', g'.adr .self = g.adr .self → LA kd (Foot g S) H g' R S' H' → Sat (At (.ref x) (KdX kd R S') :: F) H' := by
  obtain ⟨k, h, s1, s2, ⟨g, e, L, ⟨la, ps, r⟩, ok, w⟩, cl⟩ := s.open
  cases e
  refine ⟨g, rfl, ⟨(L.same s2).start, ⟨la, ps, r.same s1⟩, ok, w⟩, fun g' S' H' eg A => cl _ _ _ H' (fun b w => L.foot w) A.ls.st (fun b w xs => A.ls.lr.notup w xs) fun k' _ t => ?_⟩
  obtain ⟨la', ps', r'⟩ := A.rul
  exact ⟨g', by rw [eg], A.ls.lr.cut, ⟨la', ps', (RulAt.tups r').same t⟩, A.ok, A.wf⟩
/-- what is true of the lines -/
theorem Sat.kdOk {P F : List As} {kd : Kd} {R : Rul} {S : LSt} {v : V} {H : Hp} [t : Take P v (KdX kd R S) F] (s : Sat P H) : R.Ok ∧ Wf R.lines.length [] S := by
  obtain ⟨k, h, s1, s2, x, g, e, L, r, o, w⟩ := s.tell (t := t)
  exact ⟨o, w⟩
theorem e_kdOk {P F : List As} {kd : Kd} {R : Rul} {S : LSt} {v : V} {X : Hp → Prop} (t : Take P v (KdX kd R S) F) (k : R.Ok → Wf R.lines.length [] S → Ent P X) : Ent P X := fun H s => by
  obtain ⟨o, w⟩ := s.kdOk (t := t)
  exact k o w H s
/-- a method's name -/
class LnM (m : Str) : Prop where
  no : ∀ g z, (LF g z).lookup m = none
instance lnM_come : LnM "come" := ⟨fun _ _ => lk_LF_no (by decide +kernel) (by decide +kernel) (by decide +kernel) (by decide +kernel)⟩
instance lnM_go : LnM "go" := ⟨fun _ _ => lk_LF_no (by decide +kernel) (by decide +kernel) (by decide +kernel) (by decide +kernel)⟩
instance lnM_wait : LnM "wait" := ⟨fun _ _ => lk_LF_no (by decide +kernel) (by decide +kernel) (by decide +kernel) (by decide +kernel)⟩
instance lnM_wake : LnM "wake" := ⟨fun _ _ => lk_LF_no (by decide +kernel) (by decide +kernel) (by decide +kernel) (by decide +kernel)⟩
instance lnM_tick : LnM "tick" := ⟨fun _ _ => lk_LF_no (by decide +kernel) (by decide +kernel) (by decide +kernel) (by decide +kernel)⟩
instance lnM_lines : LnM "lines" := ⟨fun _ _ => lk_LF_no (by decide +kernel) (by decide +kernel) (by decide +kernel) (by decide +kernel)⟩
instance lnM_now : LnM "now" := ⟨fun _ _ => lk_LF_no (by decide +kernel) (by decide +kernel) (by decide +kernel) (by decide +kernel)⟩
instance lnM_card : LnM "card" := ⟨fun _ _ => lk_LF_no (by decide +kernel) (by decide +kernel) (by decide +kernel) (by decide +kernel)⟩
instance lnM_used : LnM "used" := ⟨fun _ _ => lk_LF_no (by decide +kernel) (by decide +kernel) (by decide +kernel) (by decide +kernel)⟩
instance lnM_tasks : LnM "tasks" := ⟨fun _ _ => lk_LF_no (by decide +kernel) (by decide +kernel) (by decide +kernel) (by decide +kernel)⟩
instance lnM_first : LnM "first" := ⟨fun _ _ => lk_LF_no (by decide +kernel) (by decide +kernel) (by decide +kernel) (by decide +kernel)⟩
instance lnM_run : LnM "run" := ⟨fun _ _ => lk_LF_no (by decide +kernel) (by decide +kernel) (by decide +kernel) (by decide +kernel)⟩
instance lnM_boost_now : LnM "boost_now" := ⟨fun _ _ => lk_LF_no (by decide +kernel) (by decide +kernel) (by decide +kernel) (by decide +kernel)⟩
section
variable {P F : List As} {K : PySem.W.Frag} {a : Adr} {σ : St} {Q : VK} {E : XK} {x p : Addr} {R : Rul} {S : LSt} {t : Int} {c : Card} {v : V}
theorem e_take {m : Int} [tk : Take P (.ref p) BoxX F] (m0 : 0 < m) (m1 : m ≤ 1000000000000000000) (k : ∀ r, 0 ≤ r → r < m → Ent (At (.ref p) BoxX :: F) (fun H => Q (.int r) H)) : Ent P (fun H => sp_law_take K a [.ref p, .int m] H Q E) := fun H s => by
  obtain ⟨q, B, cl⟩ := (s.imp tk.tk).box
  exact w_take B m0 m1 fun r H' r0 r1 B' f => k r r0 r1 H' (cl H' B' f)
theorem e_pick {n : Nat} {u v : V} (hv : σ[n]? = some (some (.ref p))) [tk : Take P (.ref p) BoxX F] (k : ∀ b : Bool, Ent (At (.ref p) BoxX :: F) (fun H => Q (if b then u else v) H)) :
    Ent P (fun H => kLst [u, v] H fun l H1 => tCall (sp_law_take K a) [] E0 (tCons (tVar n) (tCons (tC (.int 2)) tNil)) σ H1 fun y H2 => rIxL K l y H2 Q) := fun H s => by
  obtain ⟨q, B, cl⟩ := (s.imp tk.tk).box
  exact w_pick hv B fun b H' B' f => k b H' (cl H' B' f)
/-- one new cell, all else as it was -/
theorem Sat.late {p : Addr} {o : HO} {H' : Hp} {P : List As} {H : Hp} (s : Sat P H) (n : H p = none) (z : Same H H') (h : H' p = some o) (no : ∀ xs, o ≠ .tup xs) : Sat (At (.ref p) (Cel o) :: P) H' := by
  refine s.add (hA := upd hnil p o) z (fun b u e => ?_) (fun b e => ?_) (noTup_one no) ⟨p, rfl, upd_same⟩
  · by_cases q : b = p
    · subst q; rw [upd_same] at e; rw [← e]; exact h
    · rw [upd_ne q] at e; cases e
  · by_cases q : b = p
    · rw [q]; exact n
    · rw [upd_ne q] at e; exact absurd rfl e
/-- a list of lists of numbers, known for good -/
def KRows (qs : List Addr) (xss : List (List Int)) : Ty := fun v => ⟨fun k _ => ∃ D, v = .ref D ∧ k D = some (.lst (qs.map V.ref)) ∧ qs.length = xss.length ∧ ∀ (i : Nat) (q : Addr) (xs : List Int), qs[i]? = some q → xss[i]? = some xs → k q = some (.lst (xs.map V.int)),
  fun s ⟨D, e, h1, h2, h3⟩ => ⟨D, e, s _ _ h1, h2, fun i q xs e1 e2 => s _ _ (h3 i q xs e1 e2)⟩⟩
instance pers_rows {qs : List Addr} {xss : List (List Int)} : Pers (KRows qs xss) := ⟨fun _ _ _ x => x⟩
instance lk_rows {qs : List Addr} {xss : List (List Int)} : Lk (KRows qs xss) (.lst (qs.map V.ref)) := ⟨fun v k h ⟨D, e, h1, _⟩ => ⟨D, e, .inr h1⟩⟩
theorem e_row {qs : List Addr} {xss : List (List Int)} {D q : Addr} {i : Nat} {xs : List Int} {X : Hp → Prop} (tk : Take P (.ref D) (KRows qs xss) F) (hq : qs[i]? = some q) (hx : xss[i]? = some xs) (k : Ent (At (.ref q) (KLst (xs.map V.int)) :: P) X) : Ent P X := fun H s =>
  k H (s.know (t := tk) fun g h ⟨D, e, h1, h2, h3⟩ => ⟨q, rfl, h3 i q xs hq hx⟩)
/-- new cells, known for good -/
theorem Sat.addK {A : As} {P : List As} {H H' kA : Hp} (s : Sat P H) (z : Same H H') (sA : Same kA H') (fr : ∀ b, kA b ≠ none → H b = none) (hp : A.p kA hnil) : Sat (A :: P) H' := by
  obtain ⟨k, h, s1, s2, x, n, y⟩ := s
  have ak : Apart k kA := fun b => by
    cases e : kA b with
    | none => exact .inr rfl
    | some o => exact .inl (s1.free (fr b (by rw [e]; simp)))
  have ah : Apart kA h := fun b => by
    cases e : kA b with
    | none => exact .inl rfl
    | some o => exact .inr (s2.free (fr b (by rw [e]; simp)))
  exact ⟨hor k kA, h, hor_sub (s1.trans z) sA, s2.trans z, hor_apart x ah, n, hnil, h, same_nil, Same.refl _, apart_nil, A.mono (same_hor_r ak) hp, y.mono same_hor_l⟩
theorem LSt.rows_row {S : LSt} {i : Nat} {xs : List Int} (h : S.rows[i]? = some xs) : S.row i = xs := LSt.row_some h
theorem sat_box {q : Addr} {H : Hp} (B : Box p q H) : Sat [At (.ref p) BoxX] H := by
  have n : NoTup (cutH (BoxF p q) H) := fun b xs e => by
    by_cases w : BoxF p q b
    · rw [cutH_in w] at e
      obtain ⟨o, e1, n⟩ := B.own w
      rw [e] at e1
      exact n xs (Option.some.inj e1).symm
    · rw [cutH_out w] at e; cases e
  exact ⟨hnil, cutH (BoxF p q) H, same_nil, cutH_sub, apart_nil, n, cutH (BoxF p q) H, hnil, Same.refl _, same_nil, fun _ => .inr rfl, ⟨p, q, rfl, B.cut⟩, trivial⟩
theorem e_rules [tk : Take P (.ref p) BoxX F] (k : ∀ ra R, R.Ok → Ent (At (.ref ra) (RulX R) :: At (.ref p) BoxX :: F) (fun H => Q (.ref ra) H)) : Ent P (fun H => sp_law_rules K a [.ref p] H Q E) := fun H s => by
  obtain ⟨q, B, cl⟩ := (s.imp tk.tk).box
  exact sp1_mk ⟨p, q, rfl, B, fun ra R la ps H' r ok B' f => k ra R ok H' ((cl H' B' f).learn (k2 := tups H') tups_sub (fun b n => tups_tup n) ⟨ra, la, ps, rfl, r.tups⟩)⟩
end
/-! ### data seen -/
class HasD (K : PySem.W.Frag) (P : List As) (v : V) (d : PyData) : Prop where
  has : ∀ H, Sat P H → Dp K H v d
class HasDs (K : PySem.W.Frag) (P : List As) (vs : List V) (ds : List PyData) : Prop where
  has : ∀ H, Sat P H → DpAll K H vs ds
def bD : Option Int → PyData
  | none => .none
  | some i => .int i
section
variable {K : PySem.W.Frag} {P F : List As} {v : V} {d : PyData} {vs : List V} {ds : List PyData} {p : Addr} {ns : List Int} {Q : VK} {E : XK} {x y : V} {a : Adr}
instance has_int {i : Int} : HasD K P (.int i) (.int i) := ⟨fun _ _ => .int i⟩
instance has_bl {i : Bool} : HasD K P (.bl i) (.bool i) := ⟨fun _ _ => .bl i⟩
instance has_str {i : Str} : HasD K P (.str i) (.str i) := ⟨fun _ _ => .str i⟩
instance has_non : HasD K P .non .none := ⟨fun _ _ => .non⟩
instance has_bV {o : Option Int} : HasD K P (bV o) (bD o) := ⟨fun _ _ => by cases o with | none => exact .non | some i => exact .int i⟩
instance has_nil : HasDs K P [] [] := ⟨fun _ _ => .nil⟩
instance has_cons [h : HasD K P v d] [t : HasDs K P vs ds] : HasDs K P (v :: vs) (d :: ds) := ⟨fun H s => .cons (h.has H s) (t.has H s)⟩
instance has_ints : HasDs K P (ns.map V.int) (ns.map .int) := ⟨fun _ _ => dpAll_map fun i _ => .int i⟩
instance has_lst [s : Sees P p (.lst vs)] [t : HasDs K P vs ds] : HasD K P (.ref p) (.list ds) := ⟨fun H h => .lst (SqL.of (s.sees H h)) (t.has H h)⟩
instance (priority := 900) has_tup [s : Sees P p (.tup vs)] [t : HasDs K P vs ds] : HasD K P (.ref p) (.tuple ds) := ⟨fun H h => .tup (SqT.of (s.sees H h)) (t.has H h)⟩
instance has_dat [t : Take P v (Dat K d) F] : HasD K P v d := ⟨fun H s => by
  obtain ⟨k, h, s1, s2, x, q⟩ := s.tell (t := t)
  exact dp_sub s1 q⟩
instance pers_dat : Pers (Dat K d) := ⟨fun _ _ _ x => x⟩
instance (priority := 1100) has_rows {qs : List Addr} {xss : List (List Int)} [t : Take P (.ref p) (KRows qs xss) F] : HasD K P (.ref p) (.list (xss.map fun xs => .list (xs.map .int))) := ⟨fun H s => by
  obtain ⟨k, h, s1, s2, x, D, e, h1, h2, h3⟩ := s.tell (t := t)
  cases e
  refine .lst (SqL.of (s1 _ _ h1)) ?_
  have h2' := h2
  have : ∀ (qs : List Addr) (xss : List (List Int)), qs.length = xss.length → (∀ (i : Nat) (q : Addr) (xs : List Int), qs[i]? = some q → xss[i]? = some xs → k q = some (.lst (xs.map V.int))) → DpAll K H (qs.map V.ref) (xss.map fun xs => .list (xs.map .int)) := by
    intro qs
    induction qs with
    | nil => intro xss hl _; cases xss with
      | nil => exact .nil
      | cons _ _ => cases hl
    | cons q qs ih =>
      intro xss hl hh
      cases xss with
      | nil => cases hl
      | cons xs xss => exact .cons (dp_ints (SqL.of (s1 _ _ (hh 0 q xs rfl rfl)))) (ih xss (by simpa using hl) fun i q xs e1 e2 => hh (i + 1) q xs e1 e2)
  exact this qs xss h2 h3⟩
theorem e_eqD (d e : PyData) [h1 : HasD K P x d] [h2 : HasD K P y e] (s1 : Sh 60 d) (s2 : Sh 60 e) (k : Ent P (fun H => Q (.bl (PyData.eqv d e)) H)) : Ent P (fun H => rEqD K x y H Q) := fun H s => r_eqD (h1.has H s) (h2.has H s) (s1.ok (by decide)) (s2.ok (by decide)) (k H s)
theorem e_neD (d e : PyData) [h1 : HasD K P x d] [h2 : HasD K P y e] (s1 : Sh 60 d) (s2 : Sh 60 e) (k : Ent P (fun H => Q (.bl (!PyData.eqv d e)) H)) : Ent P (fun H => rNeD K x y H Q) := fun H s => r_neD (h1.has H s) (h2.has H s) (s1.ok (by decide)) (s2.ok (by decide)) (k H s)
end
end Qn

/-! M1: what each operation on the lines does, by task and by line. -/
namespace Qn
open PySem L2
section
variable {R : Rul} {S : LSt} {n : Nat} {t u : Int} {c : Card} {l j : Nat} {m : Int}
theorem row_out (h : S.rows.length ≤ l) : S.row l = [] := by unfold LSt.row; rw [List.getD_eq_getElem?_getD, List.getElem?_eq_none h]; rfl
theorem look_ready (w : Wf n [] S) (e : look S.cards t = some c) : c.rdy = true ↔ t ∈ S.row c.line := by
  rw [w.mem]
  constructor
  · intro r; exact ⟨by simp, c, e, r, rfl⟩
  · rintro ⟨_, c', e', r, _⟩
    rw [e] at e'; rw [Option.some.inj e']; exact r
theorem erase_row (w : Wf n [] S) (e : look S.cards t = some c) (h : ¬ (c.rdy = true ∧ j = c.line)) : (S.row j).erase t = S.row j :=
  List.erase_of_not_mem fun z => by
    obtain ⟨_, c', e', r, q⟩ := (w.mem j t).mp z
    rw [e] at e'
    have := Option.some.inj e'
    subst this
    exact h ⟨r, q.symm⟩
theorem row_lay : (S.lay R t l).row j = if j = l ∧ l < S.rows.length then S.row j ++ [t] else S.row j := by
  unfold LSt.lay
  rw [LSt.row_upR]
  show (if l = j ∧ l < S.rows.length then S.row j ++ [t] else S.row j) = _
  by_cases q : l = j ∧ l < S.rows.length
  · rw [if_pos q, if_pos ⟨q.1.symm, q.2⟩]
  · rw [if_neg q, if_neg fun z => q ⟨z.1.symm, z.2⟩]
theorem len_lay : (S.lay R t l).rows.length = S.rows.length := LSt.rows_upR
/-! come -/
theorem look_come (e : look S.cards t = none) : look (S.come R t).cards u = if u = t then some ⟨0, R.q 0, R.s 0, true, List.replicate S.rows.length 0⟩ else look S.cards u := by
  unfold LSt.come
  rw [look_lay]
  show (if u = t then (look (S.cards ++ [(t, LSt.fresh R S.rows.length)]) u).map _ else look (S.cards ++ [(t, LSt.fresh R S.rows.length)]) u) = _
  rw [look_snoc e]
  by_cases q : u = t
  · rw [if_pos q, if_pos q, if_pos q]; rfl
  · rw [if_neg q, if_neg q, if_neg q]
theorem row_come (hn : 0 < S.rows.length) : (S.come R t).row j = if j = 0 then S.row 0 ++ [t] else S.row j := by
  unfold LSt.come
  rw [row_lay]
  show (if j = 0 ∧ 0 < S.rows.length then S.row j ++ [t] else S.row j) = _
  by_cases q : j = 0
  · rw [if_pos ⟨q, hn⟩, if_pos q, q]
  · rw [if_neg fun z => q z.1, if_neg q]
theorem len_come : (S.come R t).rows.length = S.rows.length := by unfold LSt.come; rw [len_lay]
theorem time_come : (S.come R t).time = S.time := rfl
/-! go -/
theorem look_go : look (S.go t).cards u = if u = t then none else look S.cards u := by
  unfold LSt.go
  split
  · exact look_drop
  · exact look_drop
theorem row_go (w : Wf n [] S) (e : look S.cards t = some c) : (S.go t).row j = (S.row j).erase t := by
  unfold LSt.go
  rw [LSt.card_of e]
  have hl : c.line < S.rows.length := by rw [w.rl]; exact (w.key t c e).2.2.1
  by_cases r : c.rdy = true
  · rw [if_pos r, LSt.row_upR]
    show (if c.line = j ∧ c.line < S.rows.length then (S.row j).erase t else S.row j) = _
    by_cases q : c.line = j
    · rw [if_pos ⟨q, hl⟩]
    · rw [if_neg fun z => q z.1, erase_row w e fun z => q z.2.symm]
  · rw [if_neg r, erase_row w e fun z => r z.1]; rfl
theorem len_go : (S.go t).rows.length = S.rows.length := by
  unfold LSt.go
  split
  · exact LSt.rows_upR
  · rfl
theorem time_go : (S.go t).time = S.time := by
  unfold LSt.go
  split <;> rfl
/-! wait -/
theorem look_wait : look (S.wait t).cards u = if u = t then (look S.cards u).map (fun c => { c with rdy := false }) else look S.cards u := look_upC (f := fun c => { c with rdy := false })
theorem row_wait (w : Wf n [] S) (e : look S.cards t = some c) : (S.wait t).row j = (S.row j).erase t := by
  unfold LSt.wait
  rw [LSt.card_of e, LSt.row_upR]
  have hl : c.line < S.rows.length := by rw [w.rl]; exact (w.key t c e).2.2.1
  show (if c.line = j ∧ c.line < S.rows.length then (S.row j).erase t else S.row j) = _
  by_cases q : c.line = j
  · rw [if_pos ⟨q, hl⟩]
  · rw [if_neg fun z => q z.1, erase_row w e fun z => q z.2.symm]
theorem len_wait : (S.wait t).rows.length = S.rows.length := LSt.rows_upR
theorem time_wait : (S.wait t).time = S.time := rfl
/-! wake -/
theorem look_wake (e : look S.cards t = some c) : look (S.wake R t).cards u = if u = t then some { c with rdy := true, sh := if R.kept then c.sh else R.s c.line, q := R.q c.line } else look S.cards u := by
  unfold LSt.wake
  rw [LSt.card_of e, look_lay, look_upC]
  by_cases q : u = t
  · rw [if_pos q, if_pos q, if_pos q, q, e]; rfl
  · rw [if_neg q, if_neg q, if_neg q]
theorem row_wake (w : Wf n [] S) (e : look S.cards t = some c) : (S.wake R t).row j = if j = c.line then S.row j ++ [t] else S.row j := by
  unfold LSt.wake
  rw [LSt.card_of e, row_lay]
  have hl : c.line < S.rows.length := by rw [w.rl]; exact (w.key t c e).2.2.1
  show (if j = c.line ∧ c.line < S.rows.length then S.row j ++ [t] else S.row j) = _
  by_cases q : j = c.line
  · rw [if_pos ⟨q, hl⟩, if_pos q]
  · rw [if_neg fun z => q z.1, if_neg q]
theorem len_wake : (S.wake R t).rows.length = S.rows.length := by unfold LSt.wake; rw [len_lay]; rfl
theorem time_wake : (S.wake R t).time = S.time := rfl
/-! all laid at line 0 -/
theorem look_lays : ∀ {ts : List Int} {S : LSt}, look (ts.foldl (fun S t => LSt.lay R S t 0) S).cards u = (look S.cards u).map fun c => if u ∈ ts then { c with line := 0, q := R.q 0 } else c
  | [], S => by simp
  | t :: r, S => by
    rw [List.foldl_cons, look_lays, look_lay]
    by_cases q : u = t
    · subst q
      rw [if_pos rfl]
      cases look S.cards u with
      | none => rfl
      | some c => by_cases h : u ∈ r <;> simp [h]
    · rw [if_neg q]
      cases look S.cards u with
      | none => rfl
      | some c => simp [q]
theorem row_lays : ∀ {ts : List Int} {S : LSt}, 0 < S.rows.length → (ts.foldl (fun S t => LSt.lay R S t 0) S).row j = if j = 0 then S.row 0 ++ ts else S.row j
  | [], S, _ => by by_cases q : j = 0 <;> simp [q]
  | t :: r, S, h => by
    rw [List.foldl_cons, row_lays (by rw [len_lay]; exact h), row_lay, row_lay]
    by_cases q : j = 0
    · rw [if_pos q, if_pos q, if_pos ⟨rfl, h⟩]; simp
    · rw [if_neg q, if_neg q, if_neg fun z => q z.1]
theorem len_lays : ∀ {ts : List Int} {S : LSt}, (ts.foldl (fun S t => LSt.lay R S t 0) S).rows.length = S.rows.length
  | [], S => rfl
  | t :: r, S => by rw [List.foldl_cons, len_lays, len_lay]
theorem time_lays : ∀ {ts : List Int} {S : LSt}, (ts.foldl (fun S t => LSt.lay R S t 0) S).time = S.time
  | [], S => rfl
  | t :: r, S => by rw [List.foldl_cons, time_lays]; rfl
/-! a boost -/
def bst (R : Rul) (S : LSt) (u : Int) (c : Card) : Card := { c with line := 0, sh := R.s 0, q := if u ∈ S.later then R.q 0 else c.q }
theorem look_boosted : look (S.boosted R).cards u = (look S.cards u).map (bst R S u) := by
  unfold LSt.boosted
  rw [look_lays]
  have e1 : look (S.clear R).cards u = (look S.cards u).map fun c => { c with line := 0, sh := R.s 0 } := look_map (f := fun c => { c with line := 0, sh := R.s 0 })
  rw [e1]
  cases look S.cards u with
  | none => rfl
  | some c =>
    show some (if u ∈ (S.rows.drop 1).flatten then _ else _) = some (bst R S u c)
    unfold bst LSt.later
    by_cases h : u ∈ (S.rows.drop 1).flatten
    · rw [if_pos h, if_pos h]
    · rw [if_neg h, if_neg h]
theorem len_clear (hn : 0 < S.rows.length) : (S.clear R).rows.length = S.rows.length := by unfold LSt.clear; simp; omega
theorem row_boosted (hn : 0 < S.rows.length) : (S.boosted R).row j = if j = 0 then S.row 0 ++ S.later else [] := by
  unfold LSt.boosted
  rw [row_lays (by rw [len_clear hn]; exact hn), row_clear hn, row_clear hn]
  by_cases q : j = 0
  · rw [if_pos q, if_pos q, if_pos rfl]; rfl
  · rw [if_neg q, if_neg q, if_neg q]
theorem len_boosted (hn : 0 < S.rows.length) : (S.boosted R).rows.length = S.rows.length := by unfold LSt.boosted; rw [len_lays, len_clear hn]
theorem time_boosted : (S.boosted R).time = S.time := by unfold LSt.boosted; rw [time_lays]; rfl
theorem later_out (w : Wf n [] S) (e : look S.cards t = some c) : t ∈ S.later ↔ c.rdy = true ∧ c.line ≠ 0 := by
  rw [mem_later]
  constructor
  · rintro ⟨l, h1, h2⟩
    obtain ⟨_, c', e', r, q⟩ := (w.mem l t).mp h2
    rw [e] at e'
    have := Option.some.inj e'
    subst this
    exact ⟨r, by omega⟩
  · rintro ⟨r, h⟩
    exact ⟨c.line, by omega, (look_ready w e).mp r⟩
theorem cards_upR {f : List Int → List Int} : (S.upR l f).cards = S.cards := rfl
/-! a charge -/
/-- the line to which it moves -/
def mov (n : Nat) (c : Card) (m : Int) : Option Nat :=
  if c.sh - m = 0 then (if c.line < n - 1 ∨ c.q - m = 0 then some (min (n - 1) (c.line + 1)) else none)
  else if c.q - m = 0 then some c.line else none
def chg (R : Rul) (n : Nat) (c : Card) (m : Int) : Card :=
  ⟨(mov n c m).getD c.line, match mov n c m with | some l => R.q l | none => c.q - m, if c.sh - m = 0 then R.s (min (n - 1) (c.line + 1)) else c.sh - m, c.rdy, c.sp.modify c.line (· + m)⟩
theorem charge_all (w : Wf n [] S) (e : look S.cards t = some c) (rd : c.rdy = true) :
    (∀ u, look (S.charge R t m).cards u = if u = t then some (chg R n c m) else look S.cards u) ∧
    (∀ j, (S.charge R t m).row j = match mov n c m with | none => S.row j | some l => if j = l then (S.row j).erase t ++ [t] else (S.row j).erase t) ∧
    (S.charge R t m).rows.length = S.rows.length ∧ (S.charge R t m).time = S.time := by
  have hl : c.line < S.rows.length := by rw [w.rl]; exact (w.key t c e).2.2.1
  have hr := w.rl
  have er : ∀ j, j ≠ c.line → (S.row j).erase t = S.row j := fun j h => erase_row w e fun z => h z.2
  unfold LSt.charge chg mov
  rw [LSt.card_of e, hr]
  dsimp only
  by_cases h1 : c.sh - m = 0
  · rw [if_pos h1]
    by_cases h2 : c.line < n - 1 ∨ c.q - m = 0
    · rw [if_pos h2]
      have hm : min (n - 1) (c.line + 1) < n := by omega
      refine ⟨fun u => ?_, fun j => ?_, by rw [len_lay]; exact LSt.rows_upR.trans hr, rfl⟩
      · rw [look_lay]
        rw [cards_upR, look_upC, look_upC]
        by_cases q : u = t
        · simp only [if_pos q]; rw [q, e]; simp only [Option.map_some, if_pos h1, if_pos h2, Option.getD_some]
        · simp only [if_neg q]
      · rw [row_lay, LSt.row_upR]
        show (if j = min (n - 1) (c.line + 1) ∧ min (n - 1) (c.line + 1) < (((S.upC t _).upC t _).upR c.line _).rows.length then (if c.line = j ∧ c.line < S.rows.length then (S.row j).erase t else S.row j) ++ [t] else (if c.line = j ∧ c.line < S.rows.length then (S.row j).erase t else S.row j)) = _
        rw [LSt.rows_upR]
        have e2 : (if c.line = j ∧ c.line < S.rows.length then (S.row j).erase t else S.row j) = (S.row j).erase t := by
          by_cases q : c.line = j
          · rw [if_pos ⟨q, hl⟩]
          · rw [if_neg fun z => q z.1, er j fun z => q z.symm]
        rw [e2]
        simp only [if_pos h1, if_pos h2]
        show (if j = min (n - 1) (c.line + 1) ∧ min (n - 1) (c.line + 1) < S.rows.length then _ else _) = _
        rw [hr]
        by_cases q : j = min (n - 1) (c.line + 1)
        · rw [if_pos ⟨q, hm⟩, if_pos q]
        · rw [if_neg fun z => q z.1, if_neg q]
    · rw [if_neg h2]
      refine ⟨fun u => ?_, fun j => ?_, hr, rfl⟩
      · rw [look_upC, look_upC]
        by_cases q : u = t
        · simp only [if_pos q]; rw [q, e]; simp only [Option.map_some, if_pos h1, if_neg h2, Option.getD_none]
        · simp only [if_neg q]
      · simp only [if_pos h1, if_neg h2]; rfl
  · rw [if_neg h1]
    by_cases h2 : c.q - m = 0
    · rw [if_pos h2]
      refine ⟨fun u => ?_, fun j => ?_, by rw [len_lay]; exact LSt.rows_upR.trans hr, rfl⟩
      · rw [look_lay]
        rw [cards_upR, look_upC]
        by_cases q : u = t
        · simp only [if_pos q]; rw [q, e]; simp only [Option.map_some, if_neg h1, if_pos h2, Option.getD_some]
        · simp only [if_neg q]
      · rw [row_lay, LSt.row_upR]
        show (if j = c.line ∧ c.line < ((S.upC t _).upR c.line _).rows.length then (if c.line = j ∧ c.line < S.rows.length then (S.row j).erase t else S.row j) ++ [t] else (if c.line = j ∧ c.line < S.rows.length then (S.row j).erase t else S.row j)) = _
        rw [LSt.rows_upR]
        simp only [if_neg h1, if_pos h2]
        show (if j = c.line ∧ c.line < S.rows.length then _ else _) = _
        by_cases q : j = c.line
        · rw [if_pos ⟨q, hl⟩, if_pos q, if_pos ⟨q.symm, hl⟩]
        · rw [if_neg fun z => q z.1, if_neg q, if_neg fun z => q z.1.symm, er j q]
    · rw [if_neg h2]
      refine ⟨fun u => ?_, fun j => ?_, hr, rfl⟩
      · rw [look_upC]
        by_cases q : u = t
        · simp only [if_pos q]; rw [q, e]; simp only [Option.map_some, if_neg h1, if_neg h2, Option.getD_none]
        · simp only [if_neg q]
      · simp only [if_neg h1, if_neg h2]; rfl
/-! a moment -/
theorem Wf.boostNow' (w : Wf n [] S) (hn : 0 < n) : Wf n [] (S.boostNow R) := by
  unfold LSt.boostNow
  split
  · exact w.boosted hn
  · exact w
theorem Wf.tick (w : Wf n [] S) (hn : 0 < n) : Wf n [] (S.tick R) := (w.boostNow' hn).run hn
theorem time_boostNow : (S.boostNow R).time = S.time := by
  unfold LSt.boostNow
  split
  · exact time_boosted
  · rfl
theorem len_boostNow (hn : 0 < S.rows.length) : (S.boostNow R).rows.length = S.rows.length := by
  unfold LSt.boostNow
  split
  · exact len_boosted hn
  · rfl
theorem first_time {z : Int} : ({ S with time := z } : LSt).first = S.first := rfl
theorem run_none (e : S.first = none) : S.run R m = { S with time := S.time + m } := by
  unfold LSt.run
  rw [first_time, e]
theorem run_some (w : Wf n [] S) (e : S.first = some t) : ∃ c, look S.cards t = some c ∧ c.rdy = true ∧ t ∈ S.row c.line ∧ (∀ i, i < c.line → S.row i = []) ∧ (S.row c.line).head? = some t ∧
    (∀ u, look (S.run R m).cards u = if u = t then some (chg R n c m) else look S.cards u) ∧
    (∀ j, (S.run R m).row j = match mov n c m with | none => S.row j | some l => if j = l then (S.row j).erase t ++ [t] else (S.row j).erase t) ∧
    (S.run R m).rows.length = S.rows.length ∧ (S.run R m).time = S.time + m := by
  obtain ⟨c, j, e1, r, rfl, h1, h2, h3, h4⟩ := w.first e
  have w' := w.setT (z := S.time + m)
  obtain ⟨a1, a2, a3, a4⟩ := charge_all (R := R) (m := m) w' (t := t) (c := c) e1 r
  have e2 : S.run R m = LSt.charge R { S with time := S.time + m } t m := by
    unfold LSt.run
    rw [first_time, e]
  refine ⟨c, e1, r, h1, fun i hi => ?_, h4, fun u => by rw [e2]; exact a1 u, fun j => by rw [e2]; exact a2 j, by rw [e2]; exact a3, by rw [e2]; exact a4⟩
  unfold LSt.rdyIx at h3
  have hh := List.head?_filter.symm.trans h3
  have := (List.find?_range_eq_some (n := S.rows.length) (i := c.line) (p := fun j => !(S.row j).isEmpty)).mp hh
  have := this.2.2 i hi
  simpa using this
theorem time_run : (S.run R m).time = S.time + m := by
  unfold LSt.run
  cases e : ({ S with time := S.time + m } : LSt).first with
  | none => rfl
  | some t =>
    show (LSt.charge R _ t m).time = _
    unfold LSt.charge
    dsimp only
    split
    · split <;> rfl
    · split <;> rfl
theorem time_tick : (S.tick R).time = S.time + 1 := by unfold LSt.tick; rw [time_run, time_boostNow]
theorem first_none : S.first = none ↔ ∀ j, S.row j = [] := by
  have key : S.first = none ↔ S.rdyIx = [] := by
    unfold LSt.first
    cases S.rdyIx <;> simp
  rw [key]
  unfold LSt.rdyIx
  rw [List.filter_eq_nil_iff]
  constructor
  · intro h j
    by_cases hj : j < S.rows.length
    · have := h j (List.mem_range.mpr hj)
      simpa using this
    · exact row_out (by omega)
  · intro h j _
    simp [h j]
end
end Qn

/-! M2: deeds; bounds of cards; charges kept. -/
namespace Qn
open PySem L2
/-- what is done: the lines behind it, who ran last -/
inductive Deed (R : Rul) (S : LSt) : Option Int → LSt → Option Int → Prop
  | tick (l : Option Int) : Deed R S l (S.tick R) (S.boostNow R).first
  | wait (t : Int) (c : Card) : look S.cards t = some c → c.rdy = true → Deed R S (some t) (S.wait t) (some t)
  | come (l : Option Int) (t : Int) : look S.cards t = none → 0 ≤ t → t ≤ 19 → Deed R S l (S.come R t) l
  | wake (l : Option Int) (t : Int) (c : Card) : look S.cards t = some c → c.rdy = false → Deed R S l (S.wake R t) l
  | go (l : Option Int) (t : Int) (c : Card) : look S.cards t = some c → Deed R S l (S.go t) l
  | none (l : Option Int) : Deed R S l S l
structure Bd (R : Rul) (S : LSt) : Prop where
  sh : ∀ t c, look S.cards t = some c → 1 ≤ c.sh ∧ c.sh ≤ R.s c.line ∧ ∀ x ∈ c.sp, 0 ≤ x
  q : ∀ t c, look S.cards t = some c → c.rdy = true → 1 ≤ c.q ∧ c.q ≤ R.q c.line
section
variable {R : Rul} {S S' : LSt} {n : Nat} {t u : Int} {c : Card} {l j : Nat} {m : Int} {p p' : Option Int}
theorem Rul.Ok.at' (ok : R.Ok) (h : l < R.lines.length) : 1 ≤ R.q l ∧ R.q l ≤ 8 ∧ 1 ≤ R.s l ∧ R.q l ≤ R.s l ∧ R.s l ≤ 40 := by
  have := ok.at h
  omega
theorem Bd.empty (h : S.cards = []) : Bd R S := ⟨fun t c e => (by rw [h] at e; cases e), fun t c e => (by rw [h] at e; cases e)⟩
theorem mov_lt (hl : c.line < n) (h : mov n c m = some l) : l < n ∧ (l = c.line ∨ l = c.line + 1) := by
  unfold mov at h
  split at h
  · split at h
    · have := Option.some.inj h; omega
    · cases h
  · split at h
    · have := Option.some.inj h; omega
    · cases h
/-- what a charge leaves of a card within its bounds, at one moment -/
theorem chg_one (ok : R.Ok) (hn : n = R.lines.length) (hl : c.line < n) (hq : 1 ≤ c.q ∧ c.q ≤ R.q c.line) (hs : 1 ≤ c.sh ∧ c.sh ≤ R.s c.line) :
    (chg R n c 1).line < n ∧ 1 ≤ (chg R n c 1).q ∧ (chg R n c 1).q ≤ R.q (chg R n c 1).line ∧ 1 ≤ (chg R n c 1).sh ∧ (chg R n c 1).sh ≤ R.s (chg R n c 1).line := by
  subst hn
  have b0 := ok.at' hl
  have b1 := ok.at' (l := min (R.lines.length - 1) (c.line + 1)) (by omega)
  unfold chg mov
  dsimp only
  by_cases h1 : c.sh - 1 = 0
  · rw [if_pos h1, if_pos h1]
    by_cases h2 : c.line < R.lines.length - 1 ∨ c.q - 1 = 0
    · rw [if_pos h2]
      dsimp only [Option.getD_some]
      omega
    · rw [if_neg h2]
      dsimp only [Option.getD_none]
      have e : min (R.lines.length - 1) (c.line + 1) = c.line := by omega
      rw [e]
      omega
  · rw [if_neg h1, if_neg h1]
    by_cases h2 : c.q - 1 = 0
    · rw [if_pos h2]
      dsimp only [Option.getD_some]
      omega
    · rw [if_neg h2]
      dsimp only [Option.getD_none]
      omega
theorem modify_pos {xs : List Int} {i : Nat} {m : Int} (hm : 0 ≤ m) (h : ∀ x ∈ xs, 0 ≤ x) : ∀ x ∈ xs.modify i (· + m), 0 ≤ x := fun x hx => by
  obtain ⟨j, hj, rfl⟩ := List.mem_iff_getElem.mp hx
  rw [List.getElem_modify]
  rw [List.length_modify] at hj
  have := h _ (List.getElem_mem hj)
  split <;> omega
theorem Bd.run (b : Bd R S) (ok : R.Ok) (w : Wf R.lines.length [] S) : Bd R (S.run R 1) := by
  cases e : S.first with
  | none => rw [run_none e]; exact ⟨b.sh, b.q⟩
  | some t =>
    obtain ⟨c, e1, r, _, _, _, h, _⟩ := run_some (R := R) (m := 1) w e
    have k := w.key t c e1
    have s := b.sh t c e1
    have q := b.q t c e1 r
    have g := chg_one ok rfl k.2.2.1 q ⟨s.1, s.2.1⟩
    refine ⟨fun u d e2 => ?_, fun u d e2 r2 => ?_⟩
    · rw [h u] at e2
      by_cases z : u = t
      · rw [if_pos z] at e2
        rw [← Option.some.inj e2]
        exact ⟨g.2.2.2.1, g.2.2.2.2, modify_pos (by omega) s.2.2⟩
      · rw [if_neg z] at e2; exact b.sh u d e2
    · rw [h u] at e2
      by_cases z : u = t
      · rw [if_pos z] at e2
        rw [← Option.some.inj e2]
        exact ⟨g.2.1, g.2.2.1⟩
      · rw [if_neg z] at e2; exact b.q u d e2 r2
theorem Bd.boosted (b : Bd R S) (ok : R.Ok) (w : Wf R.lines.length [] S) : Bd R (S.boosted R) := by
  have b0 := ok.at' ok.one
  refine ⟨fun u d e2 => ?_, fun u d e2 r2 => ?_⟩
  · rw [look_boosted] at e2
    cases e : look S.cards u with
    | none => rw [e] at e2; cases e2
    | some c =>
      rw [e] at e2
      rw [← Option.some.inj e2]
      exact ⟨b0.2.2.1, Int.le_refl _, (b.sh u c e).2.2⟩
  · rw [look_boosted] at e2
    cases e : look S.cards u with
    | none => rw [e] at e2; cases e2
    | some c =>
      rw [e] at e2
      have e3 := Option.some.inj e2
      rw [← e3] at r2 ⊢
      unfold bst at r2 ⊢
      dsimp only at r2 ⊢
      by_cases h : u ∈ S.later
      · rw [if_pos h]; omega
      · rw [if_neg h]
        have := b.q u c e r2
        have z : c.line = 0 := Classical.byContradiction fun z => h ((later_out w e).mpr ⟨r2, z⟩)
        rw [z] at this
        exact this
theorem Bd.boostNow (b : Bd R S) (ok : R.Ok) (w : Wf R.lines.length [] S) : Bd R (S.boostNow R) := by
  unfold LSt.boostNow
  split
  · exact b.boosted ok w
  · exact b
theorem Bd.tick (b : Bd R S) (ok : R.Ok) (w : Wf R.lines.length [] S) : Bd R (S.tick R) := (b.boostNow ok w).run ok (w.boostNow' ok.one)
theorem Bd.come (b : Bd R S) (ok : R.Ok) (e : look S.cards t = none) : Bd R (S.come R t) := by
  have b0 := ok.at' ok.one
  refine ⟨fun u d e2 => ?_, fun u d e2 r2 => ?_⟩
  · rw [look_come e] at e2
    by_cases z : u = t
    · rw [if_pos z] at e2
      rw [← Option.some.inj e2]
      exact ⟨b0.2.2.1, Int.le_refl _, fun x hx => by rw [(List.mem_replicate.mp hx).2]; omega⟩
    · rw [if_neg z] at e2; exact b.sh u d e2
  · rw [look_come e] at e2
    by_cases z : u = t
    · rw [if_pos z] at e2
      rw [← Option.some.inj e2]
      exact ⟨b0.1, Int.le_refl _⟩
    · rw [if_neg z] at e2; exact b.q u d e2 r2
theorem Bd.go (b : Bd R S) : Bd R (S.go t) := by
  refine ⟨fun u d e2 => ?_, fun u d e2 r2 => ?_⟩
  · rw [look_go] at e2
    by_cases z : u = t
    · rw [if_pos z] at e2; cases e2
    · rw [if_neg z] at e2; exact b.sh u d e2
  · rw [look_go] at e2
    by_cases z : u = t
    · rw [if_pos z] at e2; cases e2
    · rw [if_neg z] at e2; exact b.q u d e2 r2
theorem Bd.wait (b : Bd R S) : Bd R (S.wait t) := by
  refine ⟨fun u d e2 => ?_, fun u d e2 r2 => ?_⟩
  · rw [look_wait] at e2
    by_cases z : u = t
    · rw [if_pos z] at e2
      cases e : look S.cards u with
      | none => rw [e] at e2; cases e2
      | some c => rw [e] at e2; rw [← Option.some.inj e2]; exact b.sh u c e
    · rw [if_neg z] at e2; exact b.sh u d e2
  · rw [look_wait] at e2
    by_cases z : u = t
    · rw [if_pos z] at e2
      cases e : look S.cards u with
      | none => rw [e] at e2; cases e2
      | some c => rw [e] at e2; rw [← Option.some.inj e2] at r2; cases r2
    · rw [if_neg z] at e2; exact b.q u d e2 r2
theorem Bd.wake (b : Bd R S) (ok : R.Ok) (w : Wf R.lines.length [] S) (e : look S.cards t = some c) : Bd R (S.wake R t) := by
  have b0 := ok.at' (w.key t c e).2.2.1
  have s := b.sh t c e
  refine ⟨fun u d e2 => ?_, fun u d e2 r2 => ?_⟩
  · rw [look_wake e] at e2
    by_cases z : u = t
    · rw [if_pos z] at e2
      rw [← Option.some.inj e2]
      dsimp only
      refine ⟨?_, ?_, s.2.2⟩ <;> split <;> omega
    · rw [if_neg z] at e2; exact b.sh u d e2
  · rw [look_wake e] at e2
    by_cases z : u = t
    · rw [if_pos z] at e2
      rw [← Option.some.inj e2]
      exact ⟨b0.1, Int.le_refl _⟩
    · rw [if_neg z] at e2; exact b.q u d e2 r2
theorem Bd.deed (b : Bd R S) (ok : R.Ok) (w : Wf R.lines.length [] S) (d : Deed R S p S' p') : Bd R S' := by
  cases d with
  | tick => exact b.tick ok w
  | wait t c e r => exact b.wait
  | come t e h1 h2 => exact b.come ok h1
  | wake t c e r => exact b.wake ok w ‹_›
  | go t c e => exact b.go
  | none => exact b
theorem Wf.deed (ok : R.Ok) (w : Wf R.lines.length [] S) (d : Deed R S p S' p') : Wf R.lines.length [] S' := by
  cases d with
  | tick => exact w.tick ok.one
  | wait t c e r => exact w.wait e
  | come t e h1 h2 => exact w.come ‹look S.cards _ = none› ⟨by assumption, by assumption⟩ ok.one
  | wake t c e r => exact w.wake ‹look S.cards _ = some _› ‹_›
  | go t c e => exact w.go ‹look S.cards _ = some _›
  | none => exact w
end
/-! ### charges kept -/
/-- of one card, since its mark -/
def Kpt (R : Rul) (n : Nat) (c : Card) (ms : List Int) : Prop :=
  ms.length = n ∧ ∀ k, k < n → (k < c.line → c.sp.getD k 0 - ms.getD k 0 = R.s k) ∧ (k = c.line → c.line < n - 1 → c.sh + (c.sp.getD k 0 - ms.getD k 0) = R.s k) ∧ (c.line < k → c.sp.getD k 0 - ms.getD k 0 = 0)
def Kept (R : Rul) (S : LSt) (M : Int → Option (List Int)) : Prop := ∀ t c, look S.cards t = some c → ∃ ms, M t = some ms ∧ Kpt R R.lines.length c ms
section
variable {R : Rul} {S S' : LSt} {n : Nat} {t u : Int} {c : Card} {l j : Nat} {m : Int} {p p' : Option Int} {M M' : Int → Option (List Int)} {ms : List Int}
theorem getD_modify {xs : List Int} {i k : Nat} {m : Int} (h : i < xs.length) : (xs.modify i (· + m)).getD k 0 = if k = i then xs.getD k 0 + m else xs.getD k 0 := by
  rw [List.getD_eq_getElem?_getD, List.getElem?_modify, List.getD_eq_getElem?_getD]
  by_cases e : k = i
  · subst e
    rw [if_pos rfl, List.getElem?_eq_getElem h]; simp
  · rw [if_neg e]
    have e' : ¬ i = k := fun z => e z.symm
    cases xs[k]? <;> simp [e']
theorem Kpt.chg (k : Kpt R n c ms) (hl : c.line < n) (hsp : c.sp.length = n) : Kpt R n (chg R n c 1) ms := by
  refine ⟨k.1, fun i hi => ?_⟩
  obtain ⟨k1, k2, k3⟩ := k.2 i hi
  have e1 : (Qn.chg R n c 1).sp.getD i 0 = if i = c.line then c.sp.getD i 0 + 1 else c.sp.getD i 0 := getD_modify (by omega)
  rw [e1]
  obtain ⟨k1', k2', k3'⟩ := k.2 c.line hl
  unfold Qn.chg mov
  dsimp only
  by_cases h1 : c.sh - 1 = 0
  · rw [if_pos h1, if_pos h1]
    by_cases h2 : c.line < n - 1 ∨ c.q - 1 = 0
    · rw [if_pos h2]
      dsimp only [Option.getD_some]
      by_cases h3 : c.line < n - 1
      · have e : min (n - 1) (c.line + 1) = c.line + 1 := by omega
        rw [e]
        refine ⟨fun h => ?_, fun h h' => ?_, fun h => ?_⟩
        · by_cases q : i = c.line
          · rw [if_pos q]; have := k2 q h3; rw [q] at this ⊢; omega
          · rw [if_neg q]; exact k1 (by omega)
        · rw [if_neg (by omega), k3 (by omega), h]; omega
        · rw [if_neg (by omega)]; exact k3 (by omega)
      · have e : min (n - 1) (c.line + 1) = c.line := by omega
        rw [e]
        refine ⟨fun h => ?_, fun h h' => absurd h' h3, fun h => ?_⟩
        · rw [if_neg (by omega)]; exact k1 h
        · omega
    · rw [if_neg h2]
      dsimp only [Option.getD_none]
      refine ⟨fun h => ?_, fun h h' => absurd (.inl h') h2, fun h => ?_⟩
      · rw [if_neg (by omega)]; exact k1 h
      · omega
  · rw [if_neg h1, if_neg h1]
    have fin : (i < c.line → (if i = c.line then c.sp.getD i 0 + 1 else c.sp.getD i 0) - ms.getD i 0 = R.s i) ∧ (i = c.line → c.line < n - 1 → c.sh - 1 + ((if i = c.line then c.sp.getD i 0 + 1 else c.sp.getD i 0) - ms.getD i 0) = R.s i) ∧
        (c.line < i → (if i = c.line then c.sp.getD i 0 + 1 else c.sp.getD i 0) - ms.getD i 0 = 0) := by
      refine ⟨fun h => ?_, fun h h' => ?_, fun h => ?_⟩
      · rw [if_neg (by omega)]; exact k1 h
      · rw [if_pos h]; have := k2 h h'; omega
      · rw [if_neg (by omega)]; exact k3 h
    by_cases h2 : c.q - 1 = 0
    · rw [if_pos h2]; exact fin
    · rw [if_neg h2]; exact fin
theorem Kept.run (k : Kept R S M) (w : Wf R.lines.length [] S) : Kept R (S.run R 1) M := by
  cases e : S.first with
  | none => rw [run_none e]; exact k
  | some t =>
    obtain ⟨c, e1, r, _, _, _, h, _⟩ := run_some (R := R) (m := 1) w e
    have ky := w.key t c e1
    intro u d e2
    rw [h u] at e2
    by_cases z : u = t
    · rw [if_pos z] at e2
      rw [← Option.some.inj e2, z]
      obtain ⟨ms, h1, h2⟩ := k t c e1
      exact ⟨ms, h1, h2.chg ky.2.2.1 ky.2.2.2⟩
    · rw [if_neg z] at e2; exact k u d e2
/-- all are marked anew -/
theorem Kept.mark (ok : R.Ok) (w : Wf R.lines.length [] S) (hM : ∀ t c, look S.cards t = some c → M t = some c.sp) : Kept R (S.boosted R) M := by
  intro u d e2
  rw [look_boosted] at e2
  cases e : look S.cards u with
  | none => rw [e] at e2; cases e2
  | some c =>
    rw [e] at e2
    rw [← Option.some.inj e2]
    refine ⟨c.sp, hM u c e, (w.key u c e).2.2.2, fun k hk => ⟨fun h => ?_, fun h _ => ?_, fun h => ?_⟩⟩
    · exact absurd h (by show ¬ k < 0; omega)
    · have : k = 0 := h
      rw [this]
      show R.s 0 + (c.sp.getD 0 0 - c.sp.getD 0 0) = R.s 0
      omega
    · show c.sp.getD k 0 - c.sp.getD k 0 = 0
      omega
theorem Kept.tick (ok : R.Ok) (w : Wf R.lines.length [] S) (k : S.due R = false → Kept R S M) (hM : S.due R = true → ∀ t c, look S.cards t = some c → M t = some c.sp) : Kept R (S.tick R) M := by
  refine Kept.run ?_ (w.boostNow' ok.one)
  unfold LSt.boostNow
  by_cases h : S.due R = true
  · rw [if_pos h]; exact .mark ok w (hM h)
  · rw [if_neg h]; exact k (by simpa using h)
theorem Kpt.fresh : Kpt R R.lines.length ⟨0, R.q 0, R.s 0, true, List.replicate R.lines.length 0⟩ (List.replicate R.lines.length 0) := by
  refine ⟨by simp, fun k hk => ⟨fun h => ?_, fun h _ => ?_, fun h => ?_⟩⟩
  · exact absurd h (by show ¬ k < 0; omega)
  · have e : k = 0 := h
    rw [e]
    dsimp only
    omega
  · dsimp only
    omega
theorem Kept.empty (h : S.cards = []) : Kept R S M := fun t c e => by rw [h] at e; cases e
theorem Kept.wait (k : Kept R S M) : Kept R (S.wait t) M := by
  intro u d e2
  rw [look_wait] at e2
  by_cases z : u = t
  · rw [if_pos z] at e2
    cases e : look S.cards u with
    | none => rw [e] at e2; cases e2
    | some c =>
      rw [e] at e2
      rw [← Option.some.inj e2]
      exact k u c e
  · rw [if_neg z] at e2; exact k u d e2
theorem Kept.go (k : Kept R S M) : Kept R (S.go t) M := by
  intro u d e2
  rw [look_go] at e2
  by_cases z : u = t
  · rw [if_pos z] at e2; cases e2
  · rw [if_neg z] at e2; exact k u d e2
theorem Kept.wake (k : Kept R S M) (hk : R.kept = true) (e : look S.cards t = some c) : Kept R (S.wake R t) M := by
  intro u d e2
  rw [look_wake e] at e2
  by_cases z : u = t
  · rw [if_pos z] at e2
    rw [← Option.some.inj e2, z, hk]
    exact k t c e
  · rw [if_neg z] at e2; exact k u d e2
/-- one deed, and the marks that go with it -/
theorem Kept.deed (k : Kept R S M) (ok : R.Ok) (w : Wf R.lines.length [] S) (hk : R.kept = true) (d : Deed R S p S' p')
    (hM : ∀ t c, look S'.cards t = some c → M' t = if look S.cards t = none then some (List.replicate R.lines.length 0) else if S'.time > S.time ∧ S.due R = true then (look S.cards t).map (·.sp) else M t) : Kept R S' M' := by
  have out : ∀ {S'' : LSt}, Kept R S'' M → S''.time = S.time → (∀ t c, look S''.cards t = some c → ∃ c', look S.cards t = some c') →
      (∀ t c, look S''.cards t = some c → M' t = if look S.cards t = none then some (List.replicate R.lines.length 0) else if S''.time > S.time ∧ S.due R = true then (look S.cards t).map (·.sp) else M t) → Kept R S'' M' := by
    intro S'' k' ht hl hM t c e
    obtain ⟨c', e'⟩ := hl t c e
    obtain ⟨ms, h1, h2⟩ := k' t c e
    refine ⟨ms, ?_, h2⟩
    rw [hM t c e, e', if_neg (by simp), if_neg (fun z => by have := z.1; omega), h1]
  cases d with
  | tick =>
    have hl : ∀ t, look (S.tick R).cards t = none ↔ look S.cards t = none := fun t => by
      have h1 : look (S.boostNow R).cards t = none ↔ look S.cards t = none := by
        unfold LSt.boostNow
        split
        · rw [look_boosted]; simp
        · rfl
      rw [← h1]
      unfold LSt.tick
      cases e : (S.boostNow R).first with
      | none => rw [run_none e]
      | some v =>
        obtain ⟨c, e1, r, _, _, _, h, _⟩ := run_some (R := R) (m := 1) (w.boostNow' ok.one) e
        rw [h t]
        by_cases z : t = v
        · rw [if_pos z, z, e1]; simp
        · rw [if_neg z]
    have ht : (S.tick R).time > S.time := by rw [time_tick]; omega
    have K : Kept R (S.tick R) (fun t => if S.due R = true then (look S.cards t).map (·.sp) else M t) :=
      .tick ok w (fun h => by simp only [h]; exact k) (fun h t c e => by simp only [h, if_true, e]; rfl)
    intro t c e
    obtain ⟨ms, h1, h2⟩ := K t c e
    refine ⟨ms, ?_, h2⟩
    rw [hM t c e, if_neg (fun z => by rw [(hl t).mpr z] at e; cases e)]
    by_cases h : S.due R = true
    · rw [if_pos ⟨ht, h⟩]
      simp only [h, if_true] at h1
      exact h1
    · rw [if_neg (fun z => h z.2)]
      simp only [h] at h1
      exact h1
  | wait t c e r =>
    refine out k.wait time_wait (fun u d e2 => ?_) hM
    rw [look_wait] at e2
    by_cases z : u = t
    · exact ⟨c, z ▸ e⟩
    · rw [if_neg z] at e2; exact ⟨d, e2⟩
  | come _ t e h1 h2 =>
    intro u d e2
    have hu := hM u d e2
    rw [look_come e, w.rl] at e2
    by_cases z : u = t
    · rw [if_pos z] at e2
      rw [z, e, if_pos rfl] at hu
      rw [← Option.some.inj e2, z]
      exact ⟨_, hu, Kpt.fresh⟩
    · rw [if_neg z] at e2
      obtain ⟨ms, h3, h4⟩ := k u d e2
      refine ⟨ms, ?_, h4⟩
      rw [hu, e2, if_neg (by simp), if_neg (fun z => by have := z.1; rw [time_come] at this; omega), h3]
  | wake _ t c e r =>
    refine out (k.wake hk e) time_wake (fun u d e2 => ?_) hM
    rw [look_wake e] at e2
    by_cases z : u = t
    · exact ⟨c, z ▸ e⟩
    · rw [if_neg z] at e2; exact ⟨d, e2⟩
  | go _ t c e =>
    refine out k.go time_go (fun u d e2 => ?_) hM
    rw [look_go] at e2
    by_cases z : u = t
    · rw [if_pos z] at e2; cases e2
    · rw [if_neg z] at e2; exact ⟨d, e2⟩
  | none => exact out k rfl (fun t c e => ⟨c, e⟩) hM
end
end Qn

/-! M3: all rows laid flat; whole numbers as data. -/
namespace Qn
open PySem L2
section
variable {S : LSt} {n : Nat} {t : Int} {c : Card}
theorem rows_flat (hn : 0 < S.rows.length) : S.rows.flatten = S.row 0 ++ S.later := by
  unfold LSt.later LSt.row
  cases h : S.rows with
  | nil => rw [h] at hn; cases hn
  | cons x r => simp
theorem mem_flat : t ∈ S.rows.flatten ↔ ∃ l, t ∈ S.row l := by
  rw [List.mem_flatten]
  constructor
  · rintro ⟨xs, hx, ht⟩
    obtain ⟨i, hi, rfl⟩ := List.mem_iff_getElem.mp hx
    exact ⟨i, by rw [LSt.row_some (List.getElem?_eq_getElem hi)]; exact ht⟩
  · rintro ⟨l, ht⟩
    have hl : l < S.rows.length := Classical.byContradiction fun z => by rw [row_out (by omega)] at ht; cases ht
    exact ⟨S.row l, List.mem_iff_getElem?.mpr ⟨l, LSt.row_at hl⟩, ht⟩
theorem mem_flatW (w : Wf n [] S) : t ∈ S.rows.flatten ↔ ∃ c, look S.cards t = some c ∧ c.rdy = true := by
  rw [mem_flat]
  constructor
  · rintro ⟨l, h⟩
    obtain ⟨_, c, e, r, _⟩ := (w.mem l t).mp h
    exact ⟨c, e, r⟩
  · rintro ⟨c, e, r⟩
    exact ⟨c.line, (look_ready w e).mp r⟩
theorem flat_nodup (w : Wf n [] S) (hn : 0 < n) : S.rows.flatten.Nodup := by
  rw [rows_flat (by rw [w.rl]; exact hn)]
  refine List.nodup_append.mpr ⟨w.rnd 0, w.laterND, fun a ha b hb e => ?_⟩
  subst e
  obtain ⟨_, c, e, _, q⟩ := (w.mem 0 a).mp ha
  have := (later_out w e).mp hb
  exact this.2 q
theorem flat_len (w : Wf n [] S) (hn : 0 < n) : S.rows.flatten.length ≤ 20 := few (flat_nodup w hn) fun x hx => by
  obtain ⟨c, e, _⟩ := (mem_flatW w).mp hx
  exact ⟨(w.key x c e).1, (w.key x c e).2.1⟩
end
theorem not_mem_take {xs : List Int} {j : Nat} {t : Int} (nd : xs.Nodup) (h : xs[j]? = some t) : t ∉ xs.take j := fun z => by
  obtain ⟨hj, e⟩ := List.getElem?_eq_some_iff.mp h
  have e2 : xs = xs.take j ++ t :: xs.drop (j + 1) := by
    conv => lhs; rw [← List.take_append_drop j xs, List.drop_eq_getElem_cons hj, e]
  rw [e2] at nd
  exact (List.nodup_append.mp nd).2.2 t z t List.mem_cons_self rfl
/-! whole numbers as data -/
theorem eqvAll_ints : ∀ {xs ys : List Int}, PyData.eqvAll (xs.map .int) (ys.map .int) = decide (xs = ys)
  | [], [] => by simp [PyData.eqvAll]
  | [], y :: ys => by simp [PyData.eqvAll]
  | x :: xs, [] => by simp [PyData.eqvAll]
  | x :: xs, y :: ys => by
    rw [List.map_cons, List.map_cons, PyData.eqvAll, eqvAll_ints]
    by_cases h : x = y <;> simp [PyData.eqv, h]
theorem eqv_ints {xs ys : List Int} : PyData.eqv (.list (xs.map .int)) (.list (ys.map .int)) = decide (xs = ys) := by
  rw [PyData.eqv]; exact eqvAll_ints
theorem eqvAll_rows : ∀ {xs ys : List (List Int)}, PyData.eqvAll (xs.map fun r => .list (r.map .int)) (ys.map fun r => .list (r.map .int)) = decide (xs = ys)
  | [], [] => by simp [PyData.eqvAll]
  | [], y :: ys => by simp [PyData.eqvAll]
  | x :: xs, [] => by simp [PyData.eqvAll]
  | x :: xs, y :: ys => by
    rw [List.map_cons, List.map_cons, PyData.eqvAll, eqvAll_rows, eqv_ints]
    by_cases h : x = y <;> simp [h]
theorem eqv_rows {xs ys : List (List Int)} : PyData.eqv (.list (xs.map fun r => .list (r.map .int))) (.list (ys.map fun r => .list (r.map .int))) = decide (xs = ys) := by
  rw [PyData.eqv]; exact eqvAll_rows
end Qn

/-! M4: lines alike but for quanta of those that wait, for what was used, for the moment. -/
namespace Qn
open PySem L2
/-- cards alike -/
def CSim (c d : Card) : Prop := c.line = d.line ∧ c.sh = d.sh ∧ c.rdy = d.rdy ∧ (c.rdy = true → c.q = d.q)
def OSim : Option Card → Option Card → Prop
  | some c, some d => CSim c d
  | none, none => True
  | _, _ => False
structure Sim (A B : LSt) : Prop where
  len : A.rows.length = B.rows.length
  row : ∀ j, A.row j = B.row j
  card : ∀ t, OSim (look A.cards t) (look B.cards t)
section
variable {R R' : Rul} {A B S T : LSt} {n : Nat} {t u : Int} {c d : Card} {l j : Nat}
theorem rows_ext {A B : LSt} (h1 : A.rows.length = B.rows.length) (h2 : ∀ j, A.row j = B.row j) : A.rows = B.rows := by
  apply List.ext_getElem h1
  intro i a b
  have := h2 i
  rw [LSt.row_some (List.getElem?_eq_getElem a), LSt.row_some (List.getElem?_eq_getElem b)] at this
  exact this
theorem Sim.rows (s : Sim A B) : A.rows = B.rows := rows_ext s.len s.row
theorem Sim.first (s : Sim A B) : A.first = B.first := by
  have e := s.rows
  unfold LSt.first LSt.rdyIx LSt.row
  rw [e]
theorem Sim.some (s : Sim A B) (e : look A.cards t = .some c) : ∃ d, look B.cards t = .some d ∧ CSim c d := by
  have := s.card t
  rw [e] at this
  cases h : look B.cards t with
  | none => rw [h] at this; exact this.elim
  | some d => rw [h] at this; exact ⟨d, rfl, this⟩
theorem Sim.none (s : Sim A B) : look A.cards t = .none ↔ look B.cards t = .none := by
  have := s.card t
  cases h : look A.cards t <;> cases h2 : look B.cards t <;> simp_all [OSim]
/-- the rules alike but for boosts -/
structure RSim (R R' : Rul) : Prop where
  lines : R.lines = R'.lines
  kept : R.kept = R'.kept
theorem RSim.q (r : RSim R R') (l : Nat) : R.q l = R'.q l := by unfold Rul.q; rw [r.lines]
theorem RSim.s (r : RSim R R') (l : Nat) : R.s l = R'.s l := by unfold Rul.s; rw [r.lines]
theorem CSim.mov (s : CSim c d) (r : c.rdy = true) (m : Int) : mov n c m = mov n d m := by
  obtain ⟨h1, h2, h3, h4⟩ := s
  unfold Qn.mov
  rw [h1, h2, h4 r]
theorem CSim.chg (s : CSim c d) (r : c.rdy = true) (q : RSim R R') : CSim (chg R n c 1) (chg R' n d 1) := by
  have hm := s.mov (n := n) r 1
  obtain ⟨h1, h2, h3, h4⟩ := s
  have h4 := h4 r
  unfold Qn.chg
  refine ⟨?_, ?_, h3, fun _ => ?_⟩
  · dsimp only; rw [hm, h1]
  · dsimp only; rw [h1, h2, q.s]
  · dsimp only
    rw [hm, h4]
    cases Qn.mov n d 1 with
    | none => rfl
    | some l => exact q.q l
theorem Sim.run (s : Sim A B) (q : RSim R R') (w : Wf n [] A) (w' : Wf n [] B) : Sim (A.run R 1) (B.run R' 1) := by
  cases e : A.first with
  | none =>
    have e' : B.first = .none := by rw [← s.first]; exact e
    rw [run_none e, run_none e']
    exact ⟨s.len, s.row, s.card⟩
  | some t =>
    have e' : B.first = .some t := by rw [← s.first]; exact e
    obtain ⟨c, c1, c2, _, _, _, c3, c4, c5, _⟩ := run_some (R := R) (m := 1) w e
    obtain ⟨d, d1, d2, _, _, _, d3, d4, d5, _⟩ := run_some (R := R') (m := 1) w' e'
    obtain ⟨d', h1, h2⟩ := s.some c1
    rw [d1] at h1
    cases Option.some.inj h1
    refine ⟨by rw [c5, d5, s.len], fun j => ?_, fun u => ?_⟩
    · rw [c4 j, d4 j, h2.mov c2 1, s.row j]
    · rw [c3 u, d3 u]
      by_cases z : u = t
      · rw [if_pos z, if_pos z]; exact h2.chg c2 q
      · rw [if_neg z, if_neg z]; exact s.card u
theorem Sim.wake (s : Sim A B) (q : RSim R R') (w : Wf n [] A) (w' : Wf n [] B) (e : look A.cards t = .some c) : Sim (A.wake R t) (B.wake R' t) := by
  obtain ⟨d, e', h⟩ := s.some e
  refine ⟨by rw [len_wake, len_wake, s.len], fun j => ?_, fun u => ?_⟩
  · rw [row_wake w e, row_wake w' e', h.1, s.row j]
  · rw [look_wake e, look_wake e']
    by_cases z : u = t
    · rw [if_pos z, if_pos z]
      obtain ⟨h1, h2, h3, h4⟩ := h
      refine ⟨h1, ?_, rfl, fun _ => ?_⟩
      · dsimp only; rw [h1, h2, q.kept, q.s]
      · dsimp only; rw [h1, q.q]
    · rw [if_neg z, if_neg z]; exact s.card u
/-! a twin: those of rd ready, in turn, those of wt waiting, all as they come -/
structure Tw (R : Rul) (n : Nat) (rd wt : List Int) (T : LSt) : Prop where
  r0 : T.row 0 = rd
  rj : ∀ j, 0 < j → T.row j = []
  lk : ∀ t, look T.cards t = if t ∈ rd then .some ⟨0, R.q 0, R.s 0, true, List.replicate n 0⟩ else if t ∈ wt then .some ⟨0, R.q 0, R.s 0, false, List.replicate n 0⟩ else .none
theorem Tw.come (h : Tw R n rd [] T) (w : Wf n [] T) (hn : 0 < n) (ht : t ∉ rd) : look T.cards t = .none ∧ Tw R n (rd ++ [t]) [] (T.come R t) := by
  have e : look T.cards t = .none := by rw [h.lk, if_neg ht, if_neg (by simp)]
  refine ⟨e, ?_, fun j hj => ?_, fun u => ?_⟩
  · rw [row_come (by rw [w.rl]; exact hn), if_pos rfl, h.r0]
  · rw [row_come (by rw [w.rl]; exact hn), if_neg (by omega), h.rj j hj]
  · rw [look_come e, w.rl, h.lk]
    by_cases z : u = t
    · rw [if_pos z, if_pos (by rw [z]; simp)]
    · rw [if_neg z]
      by_cases y : u ∈ rd
      · rw [if_pos y, if_pos (by simp [y])]
      · rw [if_neg y, if_neg (by simp), if_neg (by simp [y, z])]
theorem Tw.stay (h : Tw R n rd wt T) (w : Wf n [] T) (hn : 0 < n) (ht : t ∉ rd) (ht' : t ∉ wt) : look T.cards t = .none ∧ look (T.come R t).cards t = .some ⟨0, R.q 0, R.s 0, true, List.replicate n 0⟩ ∧ (Wf n [] (T.come R t) → Tw R n rd (wt ++ [t]) ((T.come R t).wait t)) := by
  have e : look T.cards t = .none := by rw [h.lk, if_neg ht, if_neg ht']
  have e2 : look (T.come R t).cards t = .some ⟨0, R.q 0, R.s 0, true, List.replicate n 0⟩ := by rw [look_come e, if_pos rfl, w.rl]
  refine ⟨e, e2, fun w2 => ⟨?_, fun j hj => ?_, fun u => ?_⟩⟩
  · rw [row_wait w2 e2, row_come (by rw [w.rl]; exact hn), if_pos rfl, h.r0, List.erase_append_right _ ht]; simp
  · rw [row_wait w2 e2, row_come (by rw [w.rl]; exact hn), if_neg (by omega), h.rj j hj]; rfl
  · rw [look_wait]
    by_cases z : u = t
    · rw [if_pos z, z, e2, if_neg ht, if_pos (by simp)]; rfl
    · rw [if_neg z, look_come e, if_neg z, h.lk]
      by_cases y : u ∈ rd
      · rw [if_pos y, if_pos y]
      · rw [if_neg y, if_neg y]
        by_cases x : u ∈ wt
        · rw [if_pos x, if_pos (by simp [x])]
        · rw [if_neg x, if_neg (by simp [x, z])]
theorem bst_look (e : look S.cards t = .some c) : look (S.boosted R).cards t = .some (bst R S t c) := by rw [look_boosted, e]; rfl
/-- at a boost: the twin is alike -/
theorem Tw.sim (h : Tw R n S.rows.flatten wt T) (w : Wf n [] S) (w' : Wf n [] T) (hn : 0 < n) (hw : ∀ t, t ∈ wt ↔ ∃ c, look S.cards t = .some c ∧ c.rdy = false) (hq : ∀ t c, look S.cards t = .some c → t ∈ S.row 0 → c.q = R.q 0) : Sim (S.boosted R) T := by
  have hn' : 0 < S.rows.length := by rw [w.rl]; exact hn
  refine ⟨by rw [len_boosted hn', w.rl, w'.rl], fun j => ?_, fun u => ?_⟩
  · rw [row_boosted hn']
    by_cases z : j = 0
    · rw [if_pos z, z, h.r0, rows_flat hn']
    · rw [if_neg z, h.rj j (by omega)]
  · rw [h.lk]
    cases e : look S.cards u with
    | none =>
      have n1 : u ∉ S.rows.flatten := fun z => by obtain ⟨c, e', _⟩ := (mem_flatW w).mp z; rw [e] at e'; cases e'
      have n2 : u ∉ wt := fun z => by obtain ⟨c, e', _⟩ := (hw u).mp z; rw [e] at e'; cases e'
      rw [look_boosted, e, if_neg n1, if_neg n2]; trivial
    | some c =>
      rw [bst_look e]
      cases r : c.rdy with
      | true =>
        rw [if_pos ((mem_flatW w).mpr ⟨c, e, r⟩)]
        refine ⟨rfl, rfl, r, fun _ => ?_⟩
        show (if u ∈ S.later then R.q 0 else c.q) = R.q 0
        by_cases z : u ∈ S.later
        · rw [if_pos z]
        · rw [if_neg z]
          refine hq u c e ?_
          have z2 : c.line = 0 := Classical.byContradiction fun y => z ((later_out w e).mpr ⟨r, y⟩)
          have := (look_ready w e).mp r
          rw [z2] at this; exact this
      | false =>
        have n1 : u ∉ S.rows.flatten := fun z => by obtain ⟨c', e', r'⟩ := (mem_flatW w).mp z; rw [e] at e'; cases Option.some.inj e'; rw [r] at r'; cases r'
        rw [if_neg n1, if_pos ((hw u).mpr ⟨c, e, r⟩)]
        exact ⟨rfl, rfl, r, fun z => absurd (show c.rdy = true from z) (by rw [r]; simp)⟩
/-- a task woken at the boost's moment, none in later lines -/
theorem Tw.simWake (h : Tw R n S.rows.flatten wt T) (w : Wf n [] S) (w' : Wf n [] T) (hn : 0 < n) (q : RSim R R') (hw : ∀ t, t ∈ wt ↔ ∃ c, look S.cards t = .some c ∧ c.rdy = false) (hq : ∀ t c, look S.cards t = .some c → t ∈ S.row 0 → c.q = R.q 0)
    (hl : ∀ j, 0 < j → S.row j = []) (e : look S.cards t = .some c) (r : c.rdy = false) : Sim ((S.wake R t).boosted R) (T.wake R' t) := by
  have hn' : 0 < S.rows.length := by rw [w.rl]; exact hn
  have w2 := w.wake (R := R) e r
  have base := h.sim w w' hn hw hq
  have nr : t ∉ S.rows.flatten := fun z => by obtain ⟨c', e', r'⟩ := (mem_flatW w).mp z; rw [e] at e'; cases Option.some.inj e'; rw [r] at r'; cases r'
  have eT : look T.cards t = .some ⟨0, R.q 0, R.s 0, false, List.replicate n 0⟩ := by rw [h.lk, if_neg nr, if_pos ((hw t).mpr ⟨c, e, r⟩)]
  have hl2 : S.later = [] := by
    unfold LSt.later
    rw [List.flatten_eq_nil_iff]
    intro xs hx
    obtain ⟨i, hi, rfl⟩ := List.mem_iff_getElem.mp hx
    rw [List.getElem_drop]
    rw [List.length_drop] at hi
    have := hl (1 + i) (by omega)
    rw [LSt.row_some (List.getElem?_eq_getElem (by omega))] at this
    exact this
  have ef : S.rows.flatten = S.row 0 := by rw [rows_flat hn', hl2, List.append_nil]
  have hl3 : ∀ u, u ∈ (S.wake R t).later ↔ u = t ∧ c.line ≠ 0 := fun u => by
    rw [mem_later]
    constructor
    · rintro ⟨l, h1, h2⟩
      rw [row_wake w e] at h2
      by_cases z : l = c.line
      · rw [if_pos z, hl l (by omega)] at h2
        have h2' : u = t := by simpa using h2
        exact ⟨h2', by omega⟩
      · rw [if_neg z, hl l (by omega)] at h2; cases h2
    · rintro ⟨rfl, h1⟩
      exact ⟨c.line, by omega, by rw [row_wake w e, if_pos rfl]; simp⟩
  have hlater : (S.wake R t).later = if c.line = 0 then [] else [t] := by
    unfold LSt.later
    have e1 : (S.wake R t).rows.drop 1 = (List.range (S.rows.length - 1)).map fun i => if i + 1 = c.line then [t] else [] := by
      apply List.ext_getElem
      · simp [len_wake]
      · intro i h1 h2
        rw [List.getElem_drop, List.getElem_map, List.getElem_range]
        rw [List.length_drop, len_wake] at h1
        have := row_wake (R := R) (j := 1 + i) w e
        rw [LSt.row_some (List.getElem?_eq_getElem (show 1 + i < (S.wake R t).rows.length by rw [len_wake]; omega)), hl (1 + i) (by omega)] at this
        rw [this]
        by_cases z : i + 1 = c.line
        · rw [if_pos (by omega), if_pos z]; rfl
        · rw [if_neg (by omega), if_neg z]
    rw [e1]
    have hc : c.line < S.rows.length := by rw [w.rl]; exact (w.key t c e).2.2.1
    have fl : ∀ m, ((List.range m).map fun i => if i + 1 = c.line then [t] else []).flatten = if 0 < c.line ∧ c.line ≤ m then [t] else [] := by
      intro m
      induction m with
      | zero => rw [if_neg (by omega)]; rfl
      | succ m ih =>
        rw [List.range_succ, List.map_append, List.flatten_append, ih]
        by_cases z : m + 1 = c.line
        · rw [if_neg (by omega), if_pos (by omega)]; simp [z]
        · by_cases y : 0 < c.line ∧ c.line ≤ m
          · rw [if_pos y, if_pos (by omega)]; simp [z]
          · rw [if_neg y, if_neg (by omega)]; simp [z]
    rw [fl]
    by_cases z : c.line = 0
    · rw [if_neg (by omega), if_pos z]
    · rw [if_pos (by omega), if_neg z]
  refine ⟨by rw [len_boosted (by rw [len_wake]; exact hn'), len_wake, len_wake, w.rl, w'.rl], fun j => ?_, fun u => ?_⟩
  · rw [row_boosted (by rw [len_wake]; exact hn'), row_wake w' eT, row_wake w e, hlater]
    dsimp only
    by_cases z : j = 0
    · rw [if_pos z, if_pos z, z, h.r0, ef]
      by_cases y : c.line = 0
      · rw [if_pos y.symm, if_pos y, List.append_nil]
      · rw [if_neg (fun x => y x.symm), if_neg y]
    · rw [if_neg z, if_neg z, h.rj j (by omega)]
  · rw [look_wake eT]
    by_cases z : u = t
    · rw [if_pos z, z]
      have e2 : look (S.wake R t).cards t = .some { c with rdy := true, sh := if R.kept then c.sh else R.s c.line, q := R.q c.line } := by rw [look_wake e, if_pos rfl]
      rw [bst_look e2]
      refine ⟨rfl, ?_, rfl, fun _ => ?_⟩
      · show R.s 0 = if R'.kept = true then R.s 0 else R'.s 0
        rw [← q.s]; split <;> rfl
      · show (if t ∈ (S.wake R t).later then R.q 0 else R.q c.line) = R'.q 0
        rw [← q.q]
        by_cases y : c.line = 0
        · rw [if_neg (fun x => ((hl3 t).mp x).2 y), y]
        · rw [if_pos ((hl3 t).mpr ⟨rfl, y⟩)]
    · rw [if_neg z]
      have b := base.card u
      rw [look_boosted] at b
      rw [look_boosted, look_wake e, if_neg z]
      cases e3 : look S.cards u with
      | none => rw [e3] at b; exact b
      | some c' =>
        rw [e3] at b
        cases e4 : look T.cards u with
        | none => rw [e4] at b; exact b
        | some d =>
          rw [e4] at b
          obtain ⟨b1, b2, b3, b4⟩ := b
          refine ⟨b1, b2, b3, fun r => ?_⟩
          have := b4 r
          show (if u ∈ (S.wake R t).later then R.q 0 else c'.q) = d.q
          rw [if_neg (fun x => z ((hl3 u).mp x).1)]
          have b5 : (if u ∈ S.later then R.q 0 else c'.q) = d.q := this
          rw [hl2, if_neg (by simp)] at b5
          exact b5
/-- one that waits goes on waiting while a moment goes by -/
theorem tick_wait (ok : 0 < n) (w : Wf n [] A) (e : look A.cards t = .some c) (r : c.rdy = false) : ∃ c', look (A.tick R).cards t = .some c' ∧ c'.rdy = false := by
  have h : ∃ c', look (A.boostNow R).cards t = .some c' ∧ c'.rdy = false := by
    unfold LSt.boostNow
    split
    · exact ⟨_, bst_look e, r⟩
    · exact ⟨c, e, r⟩
  obtain ⟨c1, e1, r1⟩ := h
  have w1 := w.boostNow' (R := R) ok
  unfold LSt.tick
  cases f : (A.boostNow R).first with
  | none => rw [run_none f]; exact ⟨c1, e1, r1⟩
  | some u =>
    obtain ⟨d, d1, d2, _, _, _, d3, _⟩ := run_some (R := R) (m := 1) w1 f
    rw [d3 t]
    have z : t ≠ u := fun z => by rw [z, d1] at e1; rw [← Option.some.inj e1, d2] at r1; cases r1
    rw [if_neg z]
    exact ⟨c1, e1, r1⟩
theorem noBoost (h : R.boost = none) : A.boostNow R = A := by
  unfold LSt.boostNow LSt.due
  rw [h]; rfl
end
end Qn

/-! M5: deeds without a moment; what a boost's moment leaves. -/
namespace Qn
open PySem L2
/-- something is done, no moment goes by; with the task t -/
inductive Act (R : Rul) (S : LSt) (t : Int) : LSt → Prop
  | come : look S.cards t = none → 0 ≤ t → t ≤ 19 → Act R S t (S.come R t)
  | wake (c : Card) : look S.cards t = some c → c.rdy = false → Act R S t (S.wake R t)
  | wait (c : Card) : look S.cards t = some c → c.rdy = true → Act R S t (S.wait t)
  | go (c : Card) : look S.cards t = some c → c.rdy = true → Act R S t (S.go t)
  | none : Act R S t S
section
variable {R : Rul} {S S' : LSt} {n : Nat} {t u : Int} {c : Card} {l j : Nat}
theorem Act.deed (a : Act R S t S') : ∃ l l', Deed R S l S' l' := by
  cases a with
  | come e h1 h2 => exact ⟨_, _, .come .none t e h1 h2⟩
  | wake c e r => exact ⟨_, _, .wake .none t c e r⟩
  | wait c e r => exact ⟨_, _, .wait t c e r⟩
  | go c e r => exact ⟨_, _, .go .none t c e⟩
  | none => exact ⟨_, _, .none .none⟩
theorem Act.time (a : Act R S t S') : S'.time = S.time := by
  cases a with
  | come e h1 h2 => rfl
  | wake c e r => rfl
  | wait c e r => rfl
  | go c e r => exact time_go
  | none => rfl
theorem first_row0 (h : ∀ j, 0 < j → S.row j = []) (hn : 0 < S.rows.length) : S.first = (S.row 0).head? := by
  cases e : S.row 0 with
  | nil =>
    have : S.first = .none := first_none.mpr fun j => by
      by_cases z : j = 0
      · rw [z]; exact e
      · exact h j (by omega)
    rw [this]; rfl
  | cons x r =>
    have : S.rdyIx = [0] := by
      unfold LSt.rdyIx
      obtain ⟨m, hm⟩ : ∃ m, S.rows.length = m + 1 := ⟨S.rows.length - 1, by omega⟩
      rw [hm, List.range_succ_eq_map, List.filter_cons]
      rw [e]
      simp only [List.isEmpty_cons, Bool.not_false, if_true]
      congr 1
      rw [List.filter_eq_nil_iff]
      intro j hj
      obtain ⟨i, _, rfl⟩ := List.mem_map.mp hj
      rw [h (i + 1) (by omega)]; simp
    unfold LSt.first
    rw [this]
    show some ((S.row 0).headD 0) = _
    rw [e]; rfl
/-- what stands behind a boost's moment -/
structure BTick (R : Rul) (S S' : LSt) : Prop where
  first : (S.boostNow R).first = S.rows.flatten.head?
  other : ∀ t c, look S'.cards t = some c → S.rows.flatten.head? ≠ some t → c.line = 0 ∧ c.sh = R.s 0
  behind : ∀ t, S.rows.flatten.head? = some t → (S'.row 0).filter (fun u => decide (u ≠ t)) = S.rows.flatten.filter fun u => decide (u ≠ t)
  none : S.rows.flatten = [] → S'.row 0 = []
  rest : R.s 0 ≠ 1 → (∀ j, 0 < j → S'.row j = []) ∧ ∀ t, S.rows.flatten.head? = some t → ∃ c, look S'.cards t = some c ∧ c.line = 0 ∧ c.sh = R.s 0 - 1
theorem filter_erase' {xs : List Int} {t : Int} (h : xs.Nodup) : xs.erase t = xs.filter (fun u => decide (u ≠ t)) := by
  rw [h.erase_eq_filter]
  apply List.filter_congr
  intro u _
  by_cases e : u = t <;> simp [e]
theorem btick (ok : R.Ok) (w : Wf R.lines.length [] S) (d : S.due R = true) : BTick R S (S.tick R) := by
  have hn : 0 < S.rows.length := by rw [w.rl]; exact ok.one
  have eB : S.boostNow R = S.boosted R := by unfold LSt.boostNow; rw [if_pos d]
  have wB := w.boosted (R := R) ok.one
  have r0 : (S.boosted R).row 0 = S.rows.flatten := by rw [row_boosted hn, if_pos rfl, rows_flat hn]
  have rj : ∀ j, 0 < j → (S.boosted R).row j = [] := fun j hj => by rw [row_boosted hn, if_neg (by omega)]
  have f : (S.boosted R).first = S.rows.flatten.head? := by rw [first_row0 rj (by rw [len_boosted hn]; exact hn), r0]
  have et : S.tick R = (S.boosted R).run R 1 := by unfold LSt.tick; rw [eB]
  have b0 := ok.at' ok.one
  have oth : ∀ u c, look (S.boosted R).cards u = some c → c.line = 0 ∧ c.sh = R.s 0 := fun u c e => by
    rw [look_boosted] at e
    cases e2 : look S.cards u with
    | none => rw [e2] at e; cases e
    | some c0 => rw [e2] at e; rw [← Option.some.inj e]; exact ⟨rfl, rfl⟩
  cases hf : S.rows.flatten with
  | nil =>
    have fn : (S.boosted R).first = .none := by rw [f, hf]; rfl
    have ec : S.tick R = { S.boosted R with time := (S.boosted R).time + 1 } := by rw [et, run_none fn]
    refine ⟨by rw [eB, f], fun t c e _ => ?_, (fun t h => by rw [hf] at h; cases h), fun _ => ?_, fun _ => ⟨fun j hj => ?_, (fun t h => by rw [hf] at h; cases h)⟩⟩
    · rw [ec] at e; exact oth t c e
    · rw [ec]; show (S.boosted R).row 0 = []; rw [r0, hf]
    · rw [ec]; exact rj j hj
  | cons t r =>
    have fs : (S.boosted R).first = .some t := by rw [f, hf]; rfl
    obtain ⟨c, c1, c2, c3, _, _, c4, c5, c6, _⟩ := run_some (R := R) (m := 1) wB fs
    obtain ⟨l0, s0⟩ := oth t c c1
    have nd := flat_nodup w ok.one
    refine ⟨by rw [eB, f], fun u d e h => ?_, fun u h => ?_, (fun h => by rw [hf] at h; cases h), fun hs => ?_⟩
    · rw [et, c4 u] at e
      have z : u ≠ t := fun z => h (by rw [hf, z]; rfl)
      rw [if_neg z] at e
      exact oth u d e
    · rw [hf] at h
      cases Option.some.inj h
      rw [et, c5 0, r0]
      rw [hf] at nd
      have fe : ((t :: r).erase t).filter (fun u => decide (u ≠ t)) = (t :: r).filter fun u => decide (u ≠ t) := by
        rw [filter_erase' nd, List.filter_filter]; simp
      rw [hf]
      cases mov R.lines.length c 1 with
      | none => rfl
      | some l =>
        dsimp only
        split
        · rw [List.filter_append, fe]; simp
        · exact fe
    · have hm : mov R.lines.length c 1 = .none ∨ mov R.lines.length c 1 = .some 0 := by
        unfold mov
        rw [s0, if_neg (by omega), l0]
        by_cases q : c.q - 1 = 0
        · rw [if_pos q]; exact .inr rfl
        · rw [if_neg q]; exact .inl rfl
      refine ⟨fun j hj => ?_, fun u h => ?_⟩
      · rw [et, c5 j, rj j hj]
        rcases hm with z | z <;> rw [z]
        dsimp only
        rw [if_neg (by omega)]; rfl
      · rw [hf] at h
        cases Option.some.inj h
        refine ⟨_, by rw [et, c4, if_pos rfl], ?_, ?_⟩
        · unfold chg
          dsimp only
          rcases hm with z | z <;> rw [z]
          · exact l0
          · rfl
        · unfold chg
          dsimp only
          rw [s0, if_neg (by omega)]
/-- where no boost is, none goes to an earlier line -/
theorem tick_line (w : Wf n [] S) (hn : 0 < n) (nd : S.due R = false) (e : look S.cards t = some c) : ∃ c', look (S.tick R).cards t = some c' ∧ c.line ≤ c'.line := by
  have eB : S.boostNow R = S := by unfold LSt.boostNow; rw [nd]; rfl
  unfold LSt.tick
  rw [eB]
  cases f : S.first with
  | none => rw [run_none f]; exact ⟨c, e, Nat.le_refl _⟩
  | some v =>
    obtain ⟨d, d1, d2, _, _, _, d3, _⟩ := run_some (R := R) (m := 1) w f
    rw [d3 t]
    by_cases z : t = v
    · rw [if_pos z]
      rw [z, d1] at e
      have ed := Option.some.inj e
      subst ed
      refine ⟨_, rfl, ?_⟩
      unfold chg
      dsimp only
      cases h : mov n d 1 with
      | none => exact Nat.le_refl _
      | some l =>
        have := mov_lt (w.key v d d1).2.2.1 h
        show d.line ≤ l
        omega
    · rw [if_neg z]; exact ⟨c, e, Nat.le_refl _⟩
end
end Qn

/-! M6: who waits at line 0 runs in time. -/
namespace Qn
open PySem L2
/-- what is left of its quantum -/
def qof (S : LSt) (u : Int) : Int := match look S.cards u with | some c => c.q | none => 0
def wk (S : LSt) (xs : List Int) : Int := (xs.map (qof S)).sum
def Good (S : LSt) (t v : Int) : Prop := ∃ pre post, S.row 0 = pre ++ t :: post ∧ S.time + wk S pre ≤ v
section
variable {R : Rul} {S S' : LSt} {n : Nat} {t u v h : Int} {c : Card} {l j : Nat} {xs ys : List Int} {o : Option Int}
theorem wk_nil : wk S [] = 0 := rfl
theorem wk_cons : wk S (u :: xs) = qof S u + wk S xs := by unfold wk; rw [List.map_cons, List.sum_cons]
theorem wk_congr (e : ∀ u ∈ xs, qof S' u = qof S u) : wk S' xs = wk S xs := by
  unfold wk
  rw [List.map_congr_left e]
theorem wk_pos (e : ∀ u ∈ xs, 0 ≤ qof S u) : 0 ≤ wk S xs := by
  induction xs with
  | nil => exact Int.le_refl _
  | cons x r ih =>
    rw [wk_cons]
    have := e x List.mem_cons_self
    have := ih fun u hu => e u (List.mem_cons_of_mem _ hu)
    omega
theorem wk_le {z : Int} (e : ∀ u ∈ xs, qof S u ≤ z) : wk S xs ≤ xs.length * z := by
  induction xs with
  | nil => rw [wk_nil]; simp
  | cons x r ih =>
    rw [wk_cons, List.length_cons]
    have := e x List.mem_cons_self
    have := ih fun u hu => e u (List.mem_cons_of_mem _ hu)
    have e2 : ((r.length + 1 : Nat) : Int) * z = r.length * z + z := by rw [Int.natCast_add, Int.add_mul]; simp
    rw [e2]; omega
theorem wk_erase (e : ∀ u ∈ xs, 0 ≤ qof S u) : wk S (xs.erase h) ≤ wk S xs := by
  induction xs with
  | nil => exact Int.le_refl _
  | cons x r ih =>
    have a := e x List.mem_cons_self
    have b := ih fun u hu => e u (List.mem_cons_of_mem _ hu)
    rw [List.erase_cons]
    split
    · rw [wk_cons]; omega
    · rw [wk_cons, wk_cons]; omega
theorem q0_of (b : Bd R S) (w : Wf n [] S) (hu : u ∈ S.row 0) : 1 ≤ qof S u ∧ qof S u ≤ R.q 0 := by
  obtain ⟨_, c, e, r, l0⟩ := (w.mem 0 u).mp hu
  have := b.q u c e r
  unfold qof
  rw [e]
  rw [l0] at this
  exact this
theorem Good.mem (g : Good S t v) : t ∈ S.row 0 := by
  obtain ⟨pre, post, e, _⟩ := g
  rw [e]; simp
theorem Good.set (b : Bd R S) (w : Wf n [] S) {i : Nat} (hi : (S.row 0)[i]? = some t) : Good S t (S.time + i * R.q 0) := by
  obtain ⟨hl, e⟩ := List.getElem?_eq_some_iff.mp hi
  refine ⟨(S.row 0).take i, (S.row 0).drop (i + 1), ?_, ?_⟩
  · rw [← e, ← List.drop_eq_getElem_cons hl, List.take_append_drop]
  · have := wk_le (S := S) (xs := (S.row 0).take i) (z := R.q 0) fun u hu => (q0_of b w (List.mem_of_mem_take hu)).2
    rw [List.length_take, Nat.min_eq_left (by omega)] at this
    omega
theorem Good.le (g : Good S t v) (b : Bd R S) (w : Wf n [] S) : S.time ≤ v := by
  obtain ⟨pre, post, e, h⟩ := g
  have := wk_pos (S := S) (xs := pre) fun u hu => by
    have := (q0_of b w (u := u) (by rw [e]; simp [hu])).1
    omega
  omega
theorem erase_split {pre post : List Int} (ht : t ≠ h) (nd : (pre ++ t :: post).Nodup) : ∃ post', (pre ++ t :: post).erase h = pre.erase h ++ t :: post' := by
  by_cases z : h ∈ pre
  · exact ⟨post, by rw [List.erase_append_left _ z]⟩
  · rw [List.erase_append_right _ z, List.erase_of_not_mem z, List.erase_cons_tail (by simpa using ht)]
    exact ⟨_, rfl⟩
theorem qof_eq (e : look S'.cards u = look S.cards u) : qof S' u = qof S u := by unfold qof; rw [e]
/-- a row that has more behind it -/
theorem Good.more (g : Good S t v) (e : S'.row 0 = S.row 0 ++ ys) (ht : S'.time = S.time) (hq : ∀ u ∈ S.row 0, qof S' u = qof S u) : Good S' t v := by
  obtain ⟨pre, post, e1, h1⟩ := g
  refine ⟨pre, post ++ ys, by rw [e, e1]; simp, ?_⟩
  rw [ht, wk_congr fun u hu => hq u (by rw [e1]; simp [hu])]
  exact h1
theorem Good.less (g : Good S t v) (b : Bd R S) (w : Wf n [] S) (ne : t ≠ h) (e : S'.row 0 = (S.row 0).erase h) (ht : S'.time = S.time) (hq : ∀ u, u ≠ h → qof S' u = qof S u) : Good S' t v := by
  obtain ⟨pre, post, e1, h1⟩ := g
  have nd := w.rnd 0
  rw [e1] at nd
  obtain ⟨post', e2⟩ := erase_split ne nd
  refine ⟨pre.erase h, post', by rw [e, e1, e2], ?_⟩
  have nd1 : pre.Nodup := (List.nodup_append.mp nd).1
  rw [ht, wk_congr (S := S) fun u hu => hq u fun z => by rw [z] at hu; exact (nd1.mem_erase_iff.mp hu).1 rfl]
  have := wk_erase (S := S) (xs := pre) (h := h) fun u hu => by
    have := (q0_of b w (u := u) (by rw [e1]; simp [hu])).1
    omega
  omega
theorem Good.act (g : Good S t v) (b : Bd R S) (w : Wf n [] S) (ne : t ≠ h) (a : Act R S h S') (hn : 0 < n) : Good S' t v := by
  have hl : 0 < S.rows.length := by rw [w.rl]; exact hn
  have out : ∀ u ∈ S.row 0, look S.cards u ≠ none := fun u hu z => by
    obtain ⟨_, c, e, _⟩ := (w.mem 0 u).mp hu
    rw [e] at z; cases z
  cases a with
  | come e h1 h2 =>
    refine g.more (ys := [h]) (by rw [row_come hl, if_pos rfl]) rfl fun u hu => qof_eq ?_
    rw [look_come e, if_neg fun z : u = h => out u hu (z ▸ e)]
  | wake c e r =>
    have hq : ∀ u ∈ S.row 0, qof (S.wake R h) u = qof S u := fun u hu => qof_eq (by
      rw [look_wake e, if_neg fun z => ?_]
      subst z
      obtain ⟨_, c2, e2, r2, _⟩ := (w.mem 0 u).mp hu
      rw [e] at e2
      rw [← Option.some.inj e2, r] at r2
      cases r2)
    by_cases z : 0 = c.line
    · exact g.more (ys := [h]) (by rw [row_wake w e, if_pos z]) rfl hq
    · exact g.more (ys := []) (by rw [row_wake w e, if_neg z, List.append_nil]) rfl hq
  | wait c e r => exact g.less b w ne (row_wait w e) rfl fun u hu => qof_eq (by rw [look_wait, if_neg hu])
  | go c e r => exact g.less b w ne (row_go w e) time_go fun u hu => qof_eq (by rw [look_go, if_neg hu])
  | none => exact g
theorem Good.boost (g : Good S t v) (w : Wf n [] S) (hn : 0 < n) : Good (S.boostNow R) t v := by
  have hl : 0 < S.rows.length := by rw [w.rl]; exact hn
  unfold LSt.boostNow
  split
  · refine g.more (ys := S.later) (by rw [row_boosted hl, if_pos rfl]) time_boosted fun u hu => ?_
    obtain ⟨_, c, e, r, l0⟩ := (w.mem 0 u).mp hu
    unfold qof
    rw [look_boosted, e]
    show (bst R S u c).q = c.q
    unfold bst
    dsimp only
    rw [if_neg fun z => ((later_out w e).mp z).2 l0]
  · exact g
theorem Good.run (g : Good S t v) (b : Bd R S) (ok : R.Ok) (w : Wf R.lines.length [] S) (f : S.first = some h) (ne : t ≠ h) : Good (S.run R 1) t v := by
  obtain ⟨pre, post, e, hv⟩ := g
  obtain ⟨c, c1, c2, c3, c4, c5, c6, c7, _, c8⟩ := run_some (R := R) (m := 1) w f
  have l0 : c.line = 0 := Nat.eq_zero_of_not_pos fun z => by
    have := c4 0 z
    rw [e] at this
    simp at this
  rw [l0, e] at c5
  cases pre with
  | nil => simp at c5; exact absurd c5 ne
  | cons x pre =>
    have : x = h := by simpa using c5
    subst this
    have nd := w.rnd 0
    rw [e] at nd
    have nx : x ∉ pre := fun z => by
      have := (List.nodup_cons.mp (show (x :: (pre ++ t :: post)).Nodup from nd)).1
      exact this (by simp [z])
    have hq : ∀ u ∈ pre, qof (S.run R 1) u = qof S u := fun u hu => qof_eq (by rw [c6, if_neg fun z : u = x => nx (z ▸ hu)])
    have q1 := q0_of b w (u := x) (by rw [e]; simp)
    rw [wk_cons] at hv
    have k := w.key x c c1
    have s := b.sh x c c1
    have q := b.q x c c1 c2
    have cg := chg_one ok rfl k.2.2.1 q ⟨s.1, s.2.1⟩
    have er : ((x :: pre) ++ t :: post).erase x = pre ++ t :: post := by simp
    have r0 := c7 0
    rw [e, er] at r0
    cases hm : mov R.lines.length c 1 with
    | none =>
      rw [hm] at r0
      refine ⟨x :: pre, post, r0, ?_⟩
      rw [wk_cons, wk_congr hq, c8]
      have e1 : qof (S.run R 1) x = qof S x - 1 := by
        unfold qof
        rw [c6, if_pos rfl, c1]
        show (chg R R.lines.length c 1).q = c.q - 1
        unfold chg
        rw [hm]
      omega
    | some l =>
      rw [hm] at r0
      replace r0 : (S.run R 1).row 0 = if 0 = l then pre ++ t :: post ++ [x] else pre ++ t :: post := r0
      by_cases z : 0 = l
      · rw [if_pos z] at r0
        refine ⟨pre, post ++ [x], by rw [r0]; simp, ?_⟩
        rw [wk_congr hq, c8]; omega
      · rw [if_neg z] at r0
        refine ⟨pre, post, r0, ?_⟩
        rw [wk_congr hq, c8]; omega
theorem look_boostNow : look (S.boostNow R).cards u = if S.due R = true then (look S.cards u).map (bst R S u) else look S.cards u := by
  unfold LSt.boostNow
  split
  · exact look_boosted
  · rfl
theorem modify_ne {xs : List Int} {i : Nat} (h : i < xs.length) : xs.modify i (· + 1) ≠ xs := fun e => by
  have := congrArg (·[i]?) e
  replace this : (xs.modify i (· + 1))[i]? = xs[i]? := this
  rw [List.getElem?_modify, List.getElem?_eq_getElem h] at this
  simp at this
  omega
/-- what runs changes its count, what doesn't leaves it -/
theorem tick_sp (ok : R.Ok) (w : Wf R.lines.length [] S) (e : look S.cards t = some c) : ∃ c', look (S.tick R).cards t = some c' ∧ (c'.sp = c.sp ↔ ¬ (S.boostNow R).first = some t) := by
  have wB := w.boostNow' (R := R) ok.one
  obtain ⟨c1, e1, s1⟩ : ∃ c1, look (S.boostNow R).cards t = some c1 ∧ c1.sp = c.sp := by
    rw [look_boostNow, e]
    split
    · exact ⟨_, rfl, rfl⟩
    · exact ⟨_, rfl, rfl⟩
  unfold LSt.tick
  generalize S.boostNow R = B at wB e1 ⊢
  cases f : B.first with
  | none => rw [run_none f]; exact ⟨c1, e1, by simp [s1]⟩
  | some h =>
    obtain ⟨d, d1, _, _, _, _, d6, _⟩ := run_some (R := R) (m := 1) wB f
    rw [d6]
    by_cases z : t = h
    · subst z
      rw [e1] at d1
      cases Option.some.inj d1
      rw [if_pos rfl]
      refine ⟨_, rfl, ?_⟩
      have k := wB.key t c1 e1
      have : (chg R R.lines.length c1 1).sp = c1.sp.modify c1.line (· + 1) := rfl
      rw [this, ← s1]
      have := modify_ne (xs := c1.sp) (i := c1.line) (by rw [k.2.2.2]; exact k.2.2.1)
      simp [this]
    · rw [if_neg z]
      exact ⟨c1, e1, by simp only [s1, true_iff]; exact fun y => z (Option.some.inj y).symm⟩
theorem Good.tick (g : Good S t v) (b : Bd R S) (ok : R.Ok) (w : Wf R.lines.length [] S) (ne : ¬ (S.boostNow R).first = some t) : Good (S.tick R) t v := by
  have wB := w.boostNow' (R := R) ok.one
  have bB := b.boostNow ok w
  have gB := g.boost (R := R) w ok.one
  unfold LSt.tick
  cases f : (S.boostNow R).first with
  | none =>
    have := gB.mem
    rw [first_none.mp f 0] at this
    cases this
  | some h => exact gB.run bB ok wB f fun z => ne (by rw [f, z])
/-- the first of all is the first of the first line that has one -/
theorem first_flat (w : Wf n [] S) : S.first = S.rows.flatten.head? := by
  cases f : S.first with
  | none =>
    have h := first_none.mp f
    have : S.rows.flatten = [] := List.eq_nil_iff_forall_not_mem.mpr fun t ht => by
      obtain ⟨l, hl⟩ := mem_flat.mp ht
      rw [h l] at hl; cases hl
    rw [this]; rfl
  | some t =>
    obtain ⟨c, _, _, c3, c4, c5, _⟩ := run_some (R := ⟨[], none, true⟩) (m := 1) w f
    have hl : c.line < S.rows.length := Classical.byContradiction fun z => by rw [row_out (by omega)] at c3; cases c3
    have e : S.rows = S.rows.take c.line ++ S.row c.line :: S.rows.drop (c.line + 1) := by
      conv => lhs; rw [← List.take_append_drop c.line S.rows, List.drop_eq_getElem_cons hl, ← LSt.row_some (List.getElem?_eq_getElem hl)]
    have e0 : (S.rows.take c.line).flatten = [] := List.eq_nil_iff_forall_not_mem.mpr fun u hu => by
      obtain ⟨xs, hx, hu⟩ := List.mem_flatten.mp hu
      obtain ⟨i, hi, rfl⟩ := List.mem_iff_getElem.mp hx
      rw [List.length_take] at hi
      rw [List.getElem_take, ← LSt.row_some (List.getElem?_eq_getElem (by omega)), c4 i (by omega)] at hu
      cases hu
    rw [e, List.flatten_append, e0, List.flatten_cons, List.nil_append]
    cases hr : S.row c.line with
    | nil => rw [hr] at c5; cases c5
    | cons x r => rw [hr] at c5; exact c5.symm
theorem heads_flat : ∀ xss : List (List Int), (xss.filterMap List.head?).head? = xss.flatten.head?
  | [] => rfl
  | [] :: r => by rw [List.flatten_cons, List.nil_append, ← heads_flat r]; rfl
  | (x :: xs) :: r => rfl
theorem first_tick (ok : R.Ok) (w : Wf R.lines.length [] S) : (S.boostNow R).first = S.rows.flatten.head? := by
  by_cases d : S.due R = true
  · exact (btick ok w d).first
  · unfold LSt.boostNow
    rw [if_neg d]
    exact first_flat w
/-! the dues, as pairs -/
def putI (ps : List (Int × Int)) (t v : Int) : List (Int × Int) := if t ∈ ps.map Prod.fst then ps else ps ++ [(t, v)]
def popI (ps : List (Int × Int)) (t : Int) : List (Int × Int) := ps.filter fun p => decide (p.1 ≠ t)
structure Dues (S : LSt) (ps : List (Int × Int)) : Prop where
  nd : (ps.map Prod.fst).Nodup
  good : ∀ p ∈ ps, Good S p.1 p.2
theorem Dues.nil : Dues S [] := ⟨List.nodup_nil, fun p h => by cases h⟩
theorem Dues.filter {ps : List (Int × Int)} {p : Int × Int → Bool} (d : Dues S ps) : Dues S (ps.filter p) :=
  ⟨d.nd.sublist (List.filter_sublist.map _), fun q h => d.good q (List.mem_filter.mp h).1⟩
theorem Dues.pop {ps : List (Int × Int)} (d : Dues S ps) : Dues S (popI ps t) := d.filter
theorem Dues.act {ps : List (Int × Int)} (d : Dues S ps) (b : Bd R S) (w : Wf R.lines.length [] S) (ok : R.Ok) (a : Act R S h S') : Dues S' (popI ps h) :=
  ⟨d.pop.nd, fun q hq => by
    obtain ⟨h1, h2⟩ := List.mem_filter.mp hq
    exact (d.good q h1).act b w (by simpa using h2) a ok.one⟩
theorem Dues.put {ps : List (Int × Int)} (d : Dues S ps) (b : Bd R S) (w : Wf n [] S) {i : Nat} (hi : (S.row 0)[i]? = some t) : Dues S (putI ps t (S.time + i * R.q 0)) := by
  unfold putI
  split
  · exact d
  · rename_i hn
    refine ⟨?_, fun q hq => ?_⟩
    · rw [List.map_append]
      refine List.nodup_append.mpr ⟨d.nd, by simp, fun a ha b hb e => ?_⟩
      have : b = t := by simpa using hb
      exact hn (by rw [← this, ← e]; exact ha)
    · rcases List.mem_append.mp hq with h1 | h1
      · exact d.good q h1
      · have : q = (t, S.time + i * R.q 0) := by simpa using h1
        rw [this]
        exact Good.set b w hi
theorem Dues.few {ps : List (Int × Int)} (d : Dues S ps) (w : Wf n [] S) : ps.length ≤ 20 := by
  have := Qn.few d.nd fun x hx => by
    obtain ⟨p, hp, rfl⟩ := List.mem_map.mp hx
    obtain ⟨_, c, e, _⟩ := (w.mem 0 p.1).mp (d.good p hp).mem
    exact ⟨(w.key _ c e).1, (w.key _ c e).2.1⟩
  rw [List.length_map] at this
  exact this
end
end Qn

/-! M7: a play, as data; one moment of it. -/
namespace Qn
open PySem L2
structure Ply where
  S : LSt
  left : List (List Int)
  wk : List (Int × List Int)
  found : List (Int × Int × Int × Int)
  ends : List (Option Int)
def addW : List (Int × List Int) → Int → Int → List (Int × List Int)
  | [], m, t => [(m, [t])]
  | p :: r, m, t => if p.1 = m then (p.1, p.2 ++ [t]) :: r else p :: addW r m t
def getW (wk : List (Int × List Int)) (m : Int) : List Int := ((wk.find? fun p => decide (p.1 = m)).map (·.2)).getD []
def delW (wk : List (Int × List Int)) (m : Int) : List (Int × List Int) := wk.filter fun p => decide (p.1 ≠ m)
def sortI (xs : List Int) : List Int := xs.mergeSort fun a b => decide (a ≤ b)
def joinF (fs : List (Int × Int × Int × Int)) (b e t l : Int) : List (Int × Int × Int × Int) := match fs.getLast? with
  | some x => if x.2 = (b, t, l) then fs.dropLast ++ [(x.1, e, t, l)] else fs ++ [(b, e, t, l)]
  | none => fs ++ [(b, e, t, l)]
namespace Ply
def enter1 (R : Rul) (S : LSt) (t : Int) : LSt := if (look S.cards t).isSome then S.wake R t else S.come R t
def enter (R : Rul) (p : Ply) (now : Int) : Ply := { p with S := (sortI (getW p.wk now)).foldl (enter1 R) p.S, wk := delW p.wk now }
def over (p : Ply) (t now : Int) : Ply := match p.left.getD t.toNat [] with
  | _ :: w :: r => { p with S := p.S.wait t, left := p.left.set t.toNat r, wk := addW p.wk (now + w) t }
  | _ => { p with S := p.S.go t, ends := p.ends.set t.toNat (some now) }
def less (p : Ply) (t m : Int) : Ply := { p with left := p.left.set t.toNat (((p.left.getD t.toNat []).headD 0 - m) :: (p.left.getD t.toNat []).tail) }
def note (p : Ply) (ran : Option (Int × Nat)) (b e : Int) : Ply := match ran with
  | none => p
  | some (t, l) => if (p.left.getD t.toNat []).headD 0 - (e - b) = 0 then over { p.less t (e - b) with found := joinF p.found b e t l } t e else { p.less t (e - b) with found := joinF p.found b e t l }
def runTo (R : Rul) (p : Ply) (now later : Int) : Ply := note { p with S := p.S.run R (later - now) } p.S.ran now later
def boost (R : Rul) (p : Ply) : Ply := { p with S := p.S.boostNow R }
def tick (R : Rul) (p : Ply) (now : Int) : Ply := ((p.enter R now).boost R).runTo R now (now + 1)
/-- the moments at which something else may come -/
def nexts (R : Rul) (p : Ply) (now til : Int) : List Int :=
  [til] ++ (p.wk.map Prod.fst).filter (fun m => decide (now < m)) ++ (match R.boost with | none => [] | some b => [now - now % b + b]) ++
    (match p.S.first with | none => [] | some t => [now + (p.S.card t).q, now + (p.S.card t).sh, now + (p.left.getD t.toNat []).headD 0])
def later (R : Rul) (p : Ply) (now til : Int) : Int := (nexts R ((p.enter R now).boost R) now til).foldl min til
def leap (R : Rul) (p : Ply) (now til : Int) : Ply := ((p.enter R now).boost R).runTo R now (p.later R now til)
def begin (S : LSt) (tasks : List (Int × List Int)) : Ply := { S := S, left := tasks.map (·.2), wk := (tasks.zipIdx).foldl (fun w x => addW w x.1.1 (x.2 : Nat)) [], found := [], ends := tasks.map fun _ => none }
def ticks (R : Rul) (p : Ply) : Nat → Ply
  | 0 => p
  | n + 1 => (ticks R p n).tick R n
end Ply
/-! ### sorted -/
theorem sortI_perm (xs : List Int) : (sortI xs).Perm xs := List.mergeSort_perm _ _
theorem sortI_le (xs : List Int) : (sortI xs).Pairwise (· ≤ ·) := by
  have h := List.pairwise_mergeSort (le := fun a b : Int => decide (a ≤ b)) (fun a b c h1 h2 => by simp only [decide_eq_true_eq] at h1 h2 ⊢; omega) (fun a b => by simp only [Bool.or_eq_true, decide_eq_true_eq]; omega) xs
  exact h.imp fun z => by simpa using z
theorem sortI_uniq {xs ys : List Int} (h : ys.Pairwise (· ≤ ·)) (p : ys.Perm xs) : ys = sortI xs :=
  List.Perm.eq_of_pairwise (le := (· ≤ ·)) (fun a b _ _ u v => by omega) h (sortI_le xs) (p.trans (sortI_perm xs).symm)
/-! ### the moments at which tasks come -/
section
variable {wk : List (Int × List Int)} {m m' t : Int} {ts : List Int}
theorem addW_keys : (addW wk m t).map Prod.fst = if m ∈ wk.map Prod.fst then wk.map Prod.fst else wk.map Prod.fst ++ [m] := by
  induction wk with
  | nil => rfl
  | cons p r ih =>
    unfold addW
    by_cases e : p.1 = m
    · rw [if_pos e]; simp [e]
    · rw [if_neg e, List.map_cons, List.map_cons, ih]
      by_cases h : m ∈ r.map Prod.fst
      · rw [if_pos h, if_pos (List.mem_cons_of_mem _ h)]
      · rw [if_neg h, if_neg fun z => by exact (List.mem_cons.mp z).elim (fun z => e z.symm) h]; rfl
theorem addW_nodup (h : (wk.map Prod.fst).Nodup) : ((addW wk m t).map Prod.fst).Nodup := by
  rw [addW_keys]
  split
  · exact h
  · rename_i n
    exact List.nodup_append.mpr ⟨h, by simp, fun a ha b hb e => n ((List.mem_singleton.mp hb) ▸ e ▸ ha)⟩
theorem addW_flat : ((addW wk m t).map Prod.snd).flatten.Perm (t :: (wk.map Prod.snd).flatten) := by
  induction wk with
  | nil => exact List.Perm.refl _
  | cons p r ih =>
    unfold addW
    by_cases e : p.1 = m
    · rw [if_pos e]
      simp only [List.map_cons, List.flatten_cons, List.append_assoc]
      exact List.perm_middle
    · rw [if_neg e]
      simp only [List.map_cons, List.flatten_cons]
      exact (ih.append_left p.2).trans List.perm_middle
theorem getW_mem (h : getW wk m = ts) (ne : ts ≠ []) : (m, ts) ∈ wk := by
  unfold getW at h
  cases e : wk.find? fun p => decide (p.1 = m) with
  | none => rw [e] at h; exact absurd h.symm ne
  | some p =>
    rw [e] at h
    have h1 := List.mem_of_find?_eq_some e
    have h2 := List.find?_some e
    have : p = (m, ts) := by
      rw [← h, ← of_decide_eq_true h2]; rfl
    rw [← this]; exact h1
theorem getW_flat : ∀ {wk : List (Int × List Int)}, (wk.map Prod.fst).Nodup → (wk.map Prod.snd).flatten.Perm (getW wk m ++ ((delW wk m).map Prod.snd).flatten)
  | [], _ => List.Perm.refl _
  | p :: r, nd => by
    have nd' := List.nodup_cons.mp (show (p.1 :: r.map Prod.fst).Nodup from nd)
    by_cases e : p.1 = m
    · have e1 : getW (p :: r) m = p.2 := by unfold getW; rw [List.find?_cons_of_pos (by simpa using e)]; rfl
      have e2 : delW (p :: r) m = r := by
        unfold delW
        rw [List.filter_cons_of_neg (by simpa using e)]
        refine List.filter_eq_self.mpr fun q hq => ?_
        have : q.1 ≠ m := fun z => nd'.1 (by rw [e, ← z]; exact List.mem_map.mpr ⟨q, hq, rfl⟩)
        simpa using this
      rw [e1, e2]; exact List.Perm.refl _
    · have e1 : getW (p :: r) m = getW r m := by unfold getW; rw [List.find?_cons_of_neg (by simpa using e)]
      have e2 : delW (p :: r) m = p :: delW r m := by unfold delW; rw [List.filter_cons_of_pos (by simpa using e)]
      rw [e1, e2]
      simp only [List.map_cons, List.flatten_cons]
      refine ((getW_flat nd'.2).append_left p.2).trans ?_
      rw [← List.append_assoc, ← List.append_assoc]
      exact List.perm_append_comm.append_right _
end
/-- tasks that may come now -/
structure EnOk (p : Ply) (now : Int) : Prop where
  nd : (getW p.wk now).Nodup
  ok : ∀ t ∈ getW p.wk now, 0 ≤ t ∧ t ≤ 19 ∧ ∀ c, look p.S.cards t = some c → c.rdy = false
/-- who may run -/
def RunOk (p : Ply) : Prop := ∀ t, p.S.first = some t → ∃ (i : Nat) (xs : List Int), t = i ∧ p.left[i]? = some xs ∧ xs.length % 2 = 1 ∧ xs.length ≤ 1000 ∧ i < p.ends.length
def BurOk (bs : List Int) : Prop := bs.length % 2 = 1 ∧ bs.length ≤ 9 ∧ ∀ x ∈ bs, 1 ≤ x ∧ x ≤ 40
def TasksOk (ts : List (Int × List Int)) : Prop := ts.length ≤ 12 ∧ ∀ x ∈ ts, 0 ≤ x.1 ∧ x.1 ≤ 400 ∧ BurOk x.2
end Qn

/-! M8: what stays true of a play. -/
namespace Qn
open PySem L2
/-- ahead of a moment; busy: the tasks that may come within it are taken out -/
structure PInv (R : Rul) (n : Nat) (p : Ply) (now : Int) : Prop where
  wf : Wf R.lines.length [] p.S
  bd : Bd R p.S
  nl : p.left.length = n
  ne : p.ends.length = n
  n12 : n ≤ 12
  lf : ∀ (i : Nat) (xs : List Int), p.left[i]? = some xs → xs.length % 2 = 1 ∧ xs.length ≤ 9 ∧ ∀ x ∈ xs, 0 ≤ x ∧ x ≤ 40
  lp : ∀ (i : Nat) (xs : List Int), p.left[i]? = some xs → ((i : Int) ∈ (p.wk.map Prod.snd).flatten ∨ look p.S.cards i ≠ none) → ∀ x ∈ xs, 1 ≤ x
  kn : (p.wk.map Prod.fst).Nodup
  wn : ((p.wk.map Prod.snd).flatten).Nodup
  wt : ∀ t ∈ (p.wk.map Prod.snd).flatten, 0 ≤ t ∧ t < n ∧ ∀ c, look p.S.cards t = some c → c.rdy = false
  wm : ∀ x ∈ p.wk, now ≤ x.1 ∧ x.2 ≠ []
  cn : ∀ t c, look p.S.cards t = some c → 0 ≤ t ∧ t < n ∧ (c.rdy = false → t ∈ (p.wk.map Prod.snd).flatten)
section
variable {R : Rul} {p : Ply} {n : Nat} {now t : Int}
theorem flat_lenW (h : ((p.wk.map Prod.snd).flatten).Nodup) (k : ∀ t ∈ (p.wk.map Prod.snd).flatten, 0 ≤ t ∧ t < n) (n12 : n ≤ 12) : ((p.wk.map Prod.snd).flatten).length ≤ 20 := few h fun t ht => by
  have := k t ht
  omega
theorem PInv.flat (h : PInv R n p now) : ((p.wk.map Prod.snd).flatten).length ≤ 20 := flat_lenW h.wn (fun t ht => ⟨(h.wt t ht).1, (h.wt t ht).2.1⟩) h.n12
theorem len_flat : ∀ {wk : List (Int × List Int)}, (∀ x ∈ wk, x.2 ≠ []) → wk.length ≤ ((wk.map Prod.snd).flatten).length
  | [], _ => Nat.zero_le _
  | x :: r, h => by
    have := len_flat (wk := r) fun y hy => h y (List.mem_cons_of_mem _ hy)
    have h0 := List.length_pos_iff.mpr (h x List.mem_cons_self)
    simp only [List.map_cons, List.flatten_cons, List.length_append, List.length_cons]
    omega
theorem PInv.few (h : PInv R n p now) : p.wk.length ≤ 20 := Nat.le_trans (len_flat fun x hx => (h.wm x hx).2) h.flat
theorem PInv.enOk (h : PInv R n p now) (m : Int) : EnOk p m := by
  have pm := getW_flat (m := m) h.kn
  have nd := pm.nodup_iff.mp h.wn
  refine ⟨(List.nodup_append.mp nd).1, fun t ht => ?_⟩
  have := h.wt t (pm.mem_iff.mpr (List.mem_append_left _ ht))
  have := h.n12
  exact ⟨by omega, by omega, (h.wt t (pm.mem_iff.mpr (List.mem_append_left _ ht))).2.2⟩
theorem PInv.runOk (h : PInv R n p now) : RunOk p := fun t f => by
  obtain ⟨c, c1, _⟩ := run_some (R := R) (m := 1) h.wf f
  obtain ⟨t0, t1, _⟩ := h.cn t c c1
  have hi : t.toNat < p.left.length := by rw [h.nl]; omega
  have hx : p.left[t.toNat]? = some p.left[t.toNat] := List.getElem?_eq_getElem hi
  obtain ⟨l1, l2, _⟩ := h.lf _ _ hx
  exact ⟨t.toNat, _, by omega, hx, l1, by omega, by rw [h.ne]; omega⟩
/-- a boost changes no task's state -/
theorem PInv.boost (h : PInv R n p now) (ok : R.Ok) : PInv R n (p.boost R) now := by
  have lk : ∀ u c, look (p.S.boostNow R).cards u = some c → ∃ c', look p.S.cards u = some c' ∧ c'.rdy = c.rdy := fun u c e => by
    unfold LSt.boostNow at e
    split at e
    · rw [look_boosted] at e
      cases e2 : look p.S.cards u with
      | none => rw [e2] at e; cases e
      | some c' => rw [e2] at e; exact ⟨c', rfl, by rw [← Option.some.inj e]; rfl⟩
    · exact ⟨c, e, rfl⟩
  exact ⟨h.wf.boostNow' ok.one, h.bd.boostNow ok h.wf, h.nl, h.ne, h.n12, h.lf, fun i xs e o => h.lp i xs e (o.imp id fun z y => by
    cases e2 : look (p.boost R).S.cards i with
    | none => exact z e2
    | some c =>
      obtain ⟨c', e1, _⟩ := lk i c e2
      rw [e1] at y; cases y), h.kn, h.wn, fun t ht => ⟨(h.wt t ht).1, (h.wt t ht).2.1, fun c e => by
    obtain ⟨c', e1, e2⟩ := lk t c e
    rw [← e2]; exact (h.wt t ht).2.2 c' e1⟩, h.wm, fun t c e => by
    obtain ⟨c', e1, e2⟩ := lk t c e
    obtain ⟨a1, a2, a3⟩ := h.cn t c' e1
    exact ⟨a1, a2, fun r => a3 (e2.trans r)⟩⟩
theorem look_ent {ts : List Int} {S : LSt} (h : t ∉ ts) : look (ts.foldl (Ply.enter1 R) S).cards t = look S.cards t := by
  induction ts generalizing S with
  | nil => rfl
  | cons u r ih =>
    have h' : t ≠ u ∧ t ∉ r := ⟨List.ne_of_not_mem_cons h, List.not_mem_of_not_mem_cons h⟩
    rw [List.foldl_cons, ih h'.2]
    unfold Ply.enter1
    split
    · rename_i z
      obtain ⟨c, e⟩ := Option.isSome_iff_exists.mp z
      rw [look_wake e, if_neg h'.1]
    · rename_i z
      rw [look_come (by simpa using z), if_neg h'.1]
theorem look_in {ts : List Int} {S : LSt} (nd : ts.Nodup) (h : t ∈ ts) : ∃ c, look (ts.foldl (Ply.enter1 R) S).cards t = some c ∧ c.rdy = true := by
  induction ts generalizing S with
  | nil => cases h
  | cons u r ih =>
    have nd' := List.nodup_cons.mp nd
    rw [List.foldl_cons]
    by_cases e : t = u
    · subst e
      rw [look_ent nd'.1]
      unfold Ply.enter1
      split
      · rename_i z
        obtain ⟨c, e⟩ := Option.isSome_iff_exists.mp z
        exact ⟨_, by rw [look_wake e, if_pos rfl], rfl⟩
      · rename_i z
        exact ⟨_, by rw [look_come (by simpa using z), if_pos rfl], rfl⟩
    · exact ih nd'.2 (List.mem_of_ne_of_mem e h)
theorem ent_wf {ts : List Int} {S : LSt} (ok : R.Ok) (nd : ts.Nodup) (h : ∀ t ∈ ts, 0 ≤ t ∧ t ≤ 19 ∧ ∀ c, look S.cards t = some c → c.rdy = false) (w : Wf R.lines.length [] S) (b : Bd R S) :
    Wf R.lines.length [] (ts.foldl (Ply.enter1 R) S) ∧ Bd R (ts.foldl (Ply.enter1 R) S) := by
  induction ts generalizing S with
  | nil => exact ⟨w, b⟩
  | cons u r ih =>
    have nd' := List.nodup_cons.mp nd
    obtain ⟨u0, u1, ur⟩ := h u List.mem_cons_self
    rw [List.foldl_cons]
    have hw : Wf R.lines.length [] (Ply.enter1 R S u) ∧ Bd R (Ply.enter1 R S u) := by
      unfold Ply.enter1
      split
      · rename_i z
        obtain ⟨c, e⟩ := Option.isSome_iff_exists.mp z
        exact ⟨w.wake e (ur c e), b.wake ok w e⟩
      · rename_i z
        have e : look S.cards u = none := by simpa using z
        exact ⟨w.come e ⟨u0, u1⟩ ok.one, b.come ok e⟩
    refine ih nd'.2 (fun t ht => ?_) hw.1 hw.2
    have ne : t ∉ [u] := fun z => nd'.1 ((List.mem_singleton.mp z) ▸ ht)
    have e : look (Ply.enter1 R S u).cards t = look S.cards t := look_ent (ts := [u]) (R := R) ne
    rw [e]
    exact h t (List.mem_cons_of_mem _ ht)
theorem PInv.enter (h : PInv R n p now) (ok : R.Ok) : PInv R n (p.enter R now) now ∧ ∀ x ∈ (p.enter R now).wk, now < x.1 := by
  have pm := getW_flat (m := now) h.kn
  have nd := pm.nodup_iff.mp h.wn
  obtain ⟨nd1, nd2, nd3⟩ := List.nodup_append.mp nd
  have sp := sortI_perm (getW p.wk now)
  have ndS := sp.nodup_iff.mpr nd1
  have eo := h.enOk now
  obtain ⟨w, b⟩ := ent_wf (S := p.S) ok ndS (fun t ht => eo.ok t (sp.mem_iff.mp ht)) h.wf h.bd
  have inW : ∀ t, t ∈ sortI (getW p.wk now) → t ∈ (p.wk.map Prod.snd).flatten := fun t ht => pm.mem_iff.mpr (List.mem_append_left _ (sp.mem_iff.mp ht))
  have inD : ∀ t, t ∈ ((delW p.wk now).map Prod.snd).flatten → t ∈ (p.wk.map Prod.snd).flatten := fun t ht => pm.mem_iff.mpr (List.mem_append_right _ ht)
  have dis : ∀ t, t ∈ ((delW p.wk now).map Prod.snd).flatten → t ∉ sortI (getW p.wk now) := fun t ht z => nd3 t (sp.mem_iff.mp z) t ht rfl
  refine ⟨⟨w, b, h.nl, h.ne, h.n12, h.lf, fun i xs e o => ?_, h.kn.sublist (List.filter_sublist.map _), nd2, fun t ht => ?_, fun x hx => h.wm x (List.mem_filter.mp hx).1, fun t c e => ?_⟩, fun x hx => ?_⟩
  · rcases o with o | o
    · exact h.lp i xs e (.inl (inD _ o))
    · by_cases z : (i : Int) ∈ sortI (getW p.wk now)
      · exact h.lp i xs e (.inl (inW _ z))
      · have e2 : look ((sortI (getW p.wk now)).foldl (Ply.enter1 R) p.S).cards i = look p.S.cards i := look_ent z
        exact h.lp i xs e (.inr (e2 ▸ o))
  · obtain ⟨a1, a2, a3⟩ := h.wt t (inD t ht)
    refine ⟨a1, a2, fun c e => a3 c ?_⟩
    have e2 : look ((sortI (getW p.wk now)).foldl (Ply.enter1 R) p.S).cards t = look p.S.cards t := look_ent (dis t ht)
    exact e2 ▸ e
  · by_cases z : t ∈ sortI (getW p.wk now)
    · obtain ⟨a1, a2, _⟩ := h.wt t (inW t z)
      refine ⟨a1, a2, fun r => ?_⟩
      obtain ⟨c', e1, e2⟩ := look_in (R := R) (S := p.S) ndS z
      have e3 : some c' = some c := e1.symm.trans e
      rw [Option.some.inj e3] at e2
      rw [e2] at r; cases r
    · have e2 : look ((sortI (getW p.wk now)).foldl (Ply.enter1 R) p.S).cards t = look p.S.cards t := look_ent z
      obtain ⟨a1, a2, a3⟩ := h.cn t c (e2 ▸ e)
      refine ⟨a1, a2, fun r => ?_⟩
      rcases List.mem_append.mp (pm.mem_iff.mp (a3 r)) with y | y
      · exact absurd (sp.mem_iff.mpr y) z
      · exact y
  · obtain ⟨h1, h2⟩ := List.mem_filter.mp hx
    have := (h.wm x h1).1
    have : x.1 ≠ now := by simpa using h2
    omega
theorem addWs_flat : ∀ {xs : List ((Int × List Int) × Nat)} {w : List (Int × List Int)}, (((xs.foldl (fun w x => addW w x.1.1 (x.2 : Nat)) w).map Prod.snd).flatten).Perm ((w.map Prod.snd).flatten ++ xs.map fun x => (x.2 : Int))
  | [], w => by simp
  | x :: r, w => by
    rw [List.foldl_cons]
    refine (addWs_flat (xs := r) (w := addW w x.1.1 x.2)).trans ?_
    refine ((addW_flat (wk := w) (m := x.1.1) (t := x.2)).append_right _).trans ?_
    rw [List.map_cons, List.cons_append]
    exact List.perm_middle.symm
theorem addWs_nodup : ∀ {xs : List ((Int × List Int) × Nat)} {w : List (Int × List Int)}, (w.map Prod.fst).Nodup → ((xs.foldl (fun w x => addW w x.1.1 (x.2 : Nat)) w).map Prod.fst).Nodup
  | [], w, h => h
  | x :: r, w, h => addWs_nodup (xs := r) (addW_nodup h)
theorem addWs_mem : ∀ {xs : List ((Int × List Int) × Nat)} {w : List (Int × List Int)}, (∀ x ∈ w, 0 ≤ x.1 ∧ x.2 ≠ []) → (∀ x ∈ xs, 0 ≤ x.1.1) → ∀ x ∈ xs.foldl (fun w x => addW w x.1.1 (x.2 : Nat)) w, 0 ≤ x.1 ∧ x.2 ≠ []
  | [], w, h, _ => h
  | y :: r, w, h, k => by
    refine addWs_mem (xs := r) (w := addW w y.1.1 y.2) ?_ fun x hx => k x (List.mem_cons_of_mem _ hx)
    have y0 := k y List.mem_cons_self
    have : ∀ {w : List (Int × List Int)}, (∀ x ∈ w, 0 ≤ x.1 ∧ x.2 ≠ []) → ∀ x ∈ addW w y.1.1 (y.2 : Int), 0 ≤ x.1 ∧ x.2 ≠ [] := by
      intro w
      induction w with
      | nil =>
        intro _ x hx
        have : x = (y.1.1, [(y.2 : Int)]) := by simpa [addW] using hx
        rw [this]; exact ⟨y0, by simp⟩
      | cons p r ih =>
        intro h x hx
        unfold addW at hx
        by_cases e : p.1 = y.1.1
        · rw [if_pos e] at hx
          rcases List.mem_cons.mp hx with z | z
          · rw [z]; exact ⟨(h p List.mem_cons_self).1, by simp⟩
          · exact h x (List.mem_cons_of_mem _ z)
        · rw [if_neg e] at hx
          rcases List.mem_cons.mp hx with z | z
          · rw [z]; exact h p List.mem_cons_self
          · exact ih (fun x hx => h x (List.mem_cons_of_mem _ hx)) x z
    exact this h
theorem PInv.begin {S : LSt} {ts : List (Int × List Int)} (wf : Wf R.lines.length [] S) (hc : S.cards = []) (tok : TasksOk ts) : PInv R ts.length (Ply.begin S ts) 0 := by
  obtain ⟨h12, ho⟩ := tok
  have pf := addWs_flat (xs := ts.zipIdx) (w := [])
  have hidx : (ts.zipIdx.map fun x => (x.2 : Int)) = (List.range ts.length).map fun i : Nat => (i : Int) := by
    apply List.ext_getElem
    · simp
    · intro i h1 h2; simp
  have pf2 : (((Ply.begin S ts).wk.map Prod.snd).flatten).Perm ((List.range ts.length).map fun i : Nat => (i : Int)) := by
    rw [← hidx]; exact pf
  have noc : ∀ t, look S.cards t = none := fun t => by rw [hc]; rfl
  have inn : ∀ t ∈ ((Ply.begin S ts).wk.map Prod.snd).flatten, 0 ≤ t ∧ t < ts.length := fun t ht => by
    obtain ⟨i, hi, rfl⟩ := List.mem_map.mp (pf2.mem_iff.mp ht)
    have := List.mem_range.mp hi
    omega
  have bo : ∀ (i : Nat) (xs : List Int), (Ply.begin S ts).left[i]? = some xs → BurOk xs := fun i xs e => by
    have e' : (ts.map (·.2))[i]? = some xs := e
    rw [List.getElem?_map] at e'
    obtain ⟨x, h1, rfl⟩ := Option.map_eq_some_iff.mp e'
    exact (ho x (List.mem_of_getElem? h1)).2.2
  refine ⟨wf, Bd.empty hc, by show (ts.map (·.2)).length = _; simp, by show (ts.map fun _ => (none : Option Int)).length = _; simp, h12, fun i xs e => ?_, fun i xs e _ x hx => ((bo i xs e).2.2 x hx).1, addWs_nodup (xs := ts.zipIdx) (w := []) List.nodup_nil, ?_, fun t ht => ⟨(inn t ht).1, (inn t ht).2, fun c e => ?_⟩,
    addWs_mem (xs := ts.zipIdx) (w := []) (fun x hx => by cases hx) fun x hx => ?_, fun t c e => ?_⟩
  · obtain ⟨b1, b2, b3⟩ := bo i xs e
    exact ⟨b1, b2, fun x hx => ⟨by have := (b3 x hx).1; omega, (b3 x hx).2⟩⟩
  · refine pf2.nodup_iff.mpr ?_
    exact List.Pairwise.map _ (fun a b (h : a ≠ b) z => h (Int.ofNat.inj z)) List.nodup_range
  · have : look S.cards t = some c := e
    rw [noc t] at this; cases this
  · have := (List.mem_zipIdx' hx).2
    exact (ho x.1 (by rw [this]; exact List.getElem_mem _)).1
  · have : look S.cards t = some c := e
    rw [noc t] at this; cases this
end
end Qn

/-! M9: what stays true of a play behind a moment. -/
namespace Qn
open PySem L2
theorem join_len {fs : List (Int × Int × Int × Int)} {b e t l : Int} : (joinF fs b e t l).length ≤ fs.length + 1 := by
  unfold joinF
  split
  · split
    · simp only [List.length_append, List.length_dropLast, List.length_cons, List.length_nil]; omega
    · simp
  · simp
section
variable {R : Rul} {p : Ply} {n : Nat} {now t : Int} {c : Card} {l : Nat} {b : Int}
theorem ran_some (f : p.S.first = some t) : p.S.ran = some (t, (p.S.card t).line) := by unfold LSt.ran; rw [f]
theorem ran_none (f : p.S.first = none) : p.S.ran = none := by unfold LSt.ran; rw [f]
theorem PInv.run (h : PInv R n p now) (ok : R.Ok) (hs : ∀ x ∈ p.wk, now < x.1) : PInv R n { p with S := p.S.run R 1 } (now + 1) := by
  have lk : ∀ u c, look (p.S.run R 1).cards u = some c → ∃ c', look p.S.cards u = some c' ∧ c'.rdy = c.rdy := fun u c e => by
    cases f : p.S.first with
    | none => rw [run_none f] at e; exact ⟨c, e, rfl⟩
    | some t =>
      obtain ⟨c0, c1, c2, _, _, _, c3, _⟩ := run_some (R := R) (m := 1) h.wf f
      rw [c3] at e
      by_cases z : u = t
      · rw [if_pos z] at e
        rw [← Option.some.inj e, z]; exact ⟨c0, c1, rfl⟩
      · rw [if_neg z] at e; exact ⟨c, e, rfl⟩
  exact ⟨h.wf.run ok.one, h.bd.run ok h.wf, h.nl, h.ne, h.n12, h.lf, fun i xs e o => h.lp i xs e (o.imp id fun z y => by
    cases e2 : look (p.S.run R 1).cards i with
    | none => exact z e2
    | some c =>
      obtain ⟨c', e1, _⟩ := lk i c e2
      rw [e1] at y; cases y), h.kn, h.wn, fun t ht => ⟨(h.wt t ht).1, (h.wt t ht).2.1, fun c e => by
    obtain ⟨c', e1, e2⟩ := lk t c e
    rw [← e2]; exact (h.wt t ht).2.2 c' e1⟩, fun x hx => ⟨hs x hx, (h.wm x hx).2⟩, fun t c e => by
    obtain ⟨c', e1, e2⟩ := lk t c e
    obtain ⟨a1, a2, a3⟩ := h.cn t c' e1
    exact ⟨a1, a2, fun r => a3 (e2.trans r)⟩⟩
theorem addW_ok {wk : List (Int × List Int)} {m t b : Int} (h : ∀ x ∈ wk, b ≤ x.1 ∧ x.2 ≠ []) (hm : b ≤ m) : ∀ x ∈ addW wk m t, b ≤ x.1 ∧ x.2 ≠ [] := by
  induction wk with
  | nil =>
    intro x hx
    have : x = (m, [t]) := by simpa [addW] using hx
    rw [this]; exact ⟨hm, by simp⟩
  | cons p r ih =>
    intro x hx
    unfold addW at hx
    by_cases e : p.1 = m
    · rw [if_pos e] at hx
      rcases List.mem_cons.mp hx with z | z
      · rw [z]; exact ⟨(h p List.mem_cons_self).1, by simp⟩
      · exact h x (List.mem_cons_of_mem _ z)
    · rw [if_neg e] at hx
      rcases List.mem_cons.mp hx with z | z
      · rw [z]; exact h p List.mem_cons_self
      · exact ih (fun x hx => h x (List.mem_cons_of_mem _ hx)) x z
/-- what a note makes of a play in which t has a card and is ready, at its three ends -/
theorem PInv.note (h : PInv R n p now) (c1 : look p.S.cards t = some c) (r : c.rdy = true) (hb : now - b = 1) : PInv R n (p.note (some (t, l)) b now) now ∧ (p.note (some (t, l)) b now).found = joinF p.found b now t l := by
  obtain ⟨t0, t1, _⟩ := h.cn t c c1
  obtain ⟨i, rfl⟩ := Int.eq_ofNat_of_zero_le t0
  have hi : i < p.left.length := by rw [h.nl]; omega
  have ti : ((i : Int)).toNat = i := Int.toNat_natCast i
  have hx : p.left[i]? = some p.left[i] := List.getElem?_eq_getElem hi
  have gd : p.left.getD i [] = p.left[i] := by rw [List.getD_eq_getElem?_getD, hx]; rfl
  obtain ⟨l1, l2, l3⟩ := h.lf _ _ hx
  have l4 := h.lp _ _ hx (.inr (by rw [c1]; exact fun z => by cases z))
  have nw : (i : Int) ∉ (p.wk.map Prod.snd).flatten := fun z => by
    have := (h.wt _ z).2.2 c c1
    rw [r] at this; cases this
  cases ex : p.left[i] with
  | nil => rw [ex] at l1; simp at l1
  | cons x tl =>
  rw [ex] at l1 l2 l3 l4 hx gd
  have x1 := l4 x List.mem_cons_self
  have x4 := (l3 x List.mem_cons_self).2
  unfold Ply.note
  dsimp only
  rw [ti, hb, gd, List.headD_cons]
  unfold Ply.less
  rw [ti, gd, List.headD_cons, List.tail_cons]
  by_cases z : x - 1 = 0
  · rw [if_pos z]
    unfold Ply.over
    dsimp only
    rw [ti]
    rw [List.getD_eq_getElem?_getD, List.getElem?_set_self hi, Option.getD_some]
    cases tl with
    | nil =>
      dsimp only
      refine ⟨⟨h.wf.go c1, h.bd.go, by show (p.left.set _ _).length = n; rw [List.length_set]; exact h.nl, by show (p.ends.set _ _).length = n; rw [List.length_set]; exact h.ne, h.n12, fun j xs e => ?_, fun j xs e o => ?_, h.kn, h.wn, fun t ht => ?_, h.wm, fun u d e => ?_⟩, rfl⟩
      · have e' : (p.left.set i [x - 1])[j]? = some xs := e
        rw [List.getElem?_set] at e'
        split at e'
        · rw [← Option.some.inj e']
          refine ⟨rfl, by simp, fun y hy => ?_⟩
          rw [List.mem_singleton.mp hy]; omega
        · exact h.lf j xs e'
      · have e' : (p.left.set i [x - 1])[j]? = some xs := e
        have o' : (j : Int) ∈ (p.wk.map Prod.snd).flatten ∨ look (p.S.go i).cards j ≠ none := o
        rw [look_go] at o'
        have ji : j ≠ i := fun q => by
          subst q
          rcases o' with o' | o'
          · exact nw o'
          · exact o' (if_pos rfl)
        rw [List.getElem?_set_ne (Ne.symm ji)] at e'
        rw [if_neg (fun q => ji (by omega))] at o'
        exact h.lp j xs e' o'
      · obtain ⟨a1, a2, a3⟩ := h.wt t ht
        refine ⟨a1, a2, fun d e => ?_⟩
        have e' : look (p.S.go i).cards t = some d := e
        rw [look_go] at e'
        by_cases q : t = (i : Int)
        · rw [if_pos q] at e'; cases e'
        · rw [if_neg q] at e'; exact a3 d e'
      · have e' : look (p.S.go i).cards u = some d := e
        rw [look_go] at e'
        by_cases q : u = (i : Int)
        · rw [if_pos q] at e'; cases e'
        · rw [if_neg q] at e'; exact h.cn u d e'
    | cons w rr =>
      dsimp only
      rw [List.set_set]
      have w1 := l4 w (by simp)
      have rl : rr.length % 2 = 1 ∧ rr.length ≤ 9 ∧ (∀ y ∈ rr, 0 ≤ y ∧ y ≤ 40) ∧ ∀ y ∈ rr, 1 ≤ y := by
        simp only [List.length_cons] at l1 l2
        refine ⟨by omega, by omega, fun y hy => l3 y (by simp [hy]), fun y hy => l4 y (by simp [hy])⟩
      have fl := addW_flat (wk := p.wk) (m := now + w) (t := (i : Int))
      refine ⟨⟨h.wf.wait c1, h.bd.wait, by show (p.left.set _ _).length = n; rw [List.length_set]; exact h.nl, h.ne, h.n12, fun j xs e => ?_, fun j xs e o => ?_, addW_nodup h.kn, ?_, fun t ht => ?_, addW_ok h.wm (by omega), fun u d e => ?_⟩, rfl⟩
      · have e' : (p.left.set i rr)[j]? = some xs := e
        rw [List.getElem?_set] at e'
        split at e'
        · rw [← Option.some.inj e']
          exact ⟨rl.1, rl.2.1, rl.2.2.1⟩
        · exact h.lf j xs e'
      · have e' : (p.left.set i rr)[j]? = some xs := e
        rw [List.getElem?_set] at e'
        by_cases ji : i = j
        · rw [if_pos ji, if_pos hi] at e'
          rw [← Option.some.inj e']
          exact rl.2.2.2
        · rw [if_neg ji] at e'
          refine h.lp j xs e' ?_
          rcases o with o | o
          · have o' : (j : Int) ∈ ((addW p.wk (now + w) i).map Prod.snd).flatten := o
            rcases List.mem_cons.mp (fl.mem_iff.mp o') with y | y
            · exact absurd (show i = j by omega) ji
            · exact .inl y
          · have o' : look (p.S.wait i).cards j ≠ none := o
            rw [look_wait, if_neg (fun q => ji (by omega))] at o'
            exact .inr o'
      · exact fl.nodup_iff.mpr (List.nodup_cons.mpr ⟨nw, h.wn⟩)
      · have ht' : t ∈ ((addW p.wk (now + w) i).map Prod.snd).flatten := ht
        have look' : ∀ d, look (p.S.wait i).cards t = some d → (t = (i : Int) ∧ d.rdy = false) ∨ (t ≠ (i : Int) ∧ look p.S.cards t = some d) := fun d e => by
          rw [look_wait] at e
          by_cases q : t = (i : Int)
          · rw [if_pos q] at e
            obtain ⟨d', _, e2⟩ := Option.map_eq_some_iff.mp e
            rw [← e2]; exact .inl ⟨q, rfl⟩
          · rw [if_neg q] at e; exact .inr ⟨q, e⟩
        rcases List.mem_cons.mp (fl.mem_iff.mp ht') with y | y
        · subst y
          refine ⟨by omega, t1, fun d e => ?_⟩
          rcases look' d e with q | q
          · exact q.2
          · exact absurd rfl q.1
        · obtain ⟨a1, a2, a3⟩ := h.wt t y
          refine ⟨a1, a2, fun d e => ?_⟩
          rcases look' d e with q | q
          · exact q.2
          · exact a3 d q.2
      · have e' : look (p.S.wait i).cards u = some d := e
        rw [look_wait] at e'
        by_cases q : u = (i : Int)
        · exact ⟨by omega, by omega, fun _ => by rw [q]; exact fl.mem_iff.mpr List.mem_cons_self⟩
        · rw [if_neg q] at e'
          obtain ⟨a1, a2, a3⟩ := h.cn u d e'
          exact ⟨a1, a2, fun r => fl.mem_iff.mpr (List.mem_cons_of_mem _ (a3 r))⟩
  · rw [if_neg z]
    refine ⟨⟨h.wf, h.bd, by show (p.left.set _ _).length = n; rw [List.length_set]; exact h.nl, h.ne, h.n12, fun j xs e => ?_, fun j xs e o => ?_, h.kn, h.wn, h.wt, h.wm, h.cn⟩, rfl⟩
    · have e' : (p.left.set i ((x - 1) :: tl))[j]? = some xs := e
      rw [List.getElem?_set] at e'
      split at e'
      · rw [← Option.some.inj e']
        refine ⟨by simpa using l1, by simpa using l2, fun y hy => ?_⟩
        rcases List.mem_cons.mp hy with q | q
        · omega
        · exact l3 y (List.mem_cons_of_mem _ q)
      · exact h.lf j xs e'
    · have e' : (p.left.set i ((x - 1) :: tl))[j]? = some xs := e
      rw [List.getElem?_set] at e'
      split at e'
      · rw [← Option.some.inj e']
        intro y hy
        rcases List.mem_cons.mp hy with q | q
        · omega
        · exact l4 y (List.mem_cons_of_mem _ q)
      · exact h.lp j xs e' o
theorem PInv.runTo (h : PInv R n p now) (ok : R.Ok) (hs : ∀ x ∈ p.wk, now < x.1) : PInv R n (p.runTo R now (now + 1)) (now + 1) ∧ (p.runTo R now (now + 1)).found.length ≤ p.found.length + 1 := by
  have g := h.run ok hs
  unfold Ply.runTo
  rw [show now + 1 - now = 1 by omega]
  cases f : p.S.first with
  | none =>
    rw [ran_none f]
    exact ⟨g, Nat.le_succ _⟩
  | some t =>
    rw [ran_some f]
    obtain ⟨c, c1, c2, _, _, _, c3, _⟩ := run_some (R := R) (m := 1) h.wf f
    have e2 : look (p.S.run R 1).cards t = some (chg R R.lines.length c 1) := by rw [c3, if_pos rfl]
    have e3 := g.note (l := (p.S.card t).line) (b := now) (t := t) e2 (show c.rdy = true from c2) (by omega)
    exact ⟨e3.1, by rw [e3.2]; exact join_len⟩
theorem PInv.tick (h : PInv R n p now) (ok : R.Ok) : PInv R n (p.tick R now) (now + 1) ∧ (p.tick R now).found.length ≤ p.found.length + 1 := by
  have e := h.enter ok
  exact (e.1.boost ok).runTo ok e.2
theorem PInv.ticks (h : PInv R n p 0) (ok : R.Ok) (m : Nat) : PInv R n (p.ticks R m) m ∧ (p.ticks R m).found.length ≤ p.found.length + m := by
  induction m with
  | zero => exact ⟨h, Nat.le_refl _⟩
  | succ m ih =>
    have := ih.1.tick ok
    refine ⟨?_, ?_⟩
    · have e : ((m + 1 : Nat) : Int) = (m : Int) + 1 := by omega
      rw [e]; exact this.1
    · have h2 : (p.ticks R (m + 1)).found.length ≤ (p.ticks R m).found.length + 1 := this.2
      omega
end
end Qn

/-! M10: a leap is so many ticks. -/
namespace Qn
open PySem L2
section
variable {R : Rul} {S : LSt} {p : Ply} {n i : Nat} {now t k m a b : Int} {c : Card} {l : Nat} {x : Int} {xs : List Int}
def spent (a : Int) (c : Card) : Card := { c with sp := c.sp.modify c.line (· + a), q := c.q - a, sh := c.sh - a }
theorem spent_spent : spent b (spent a c) = spent (a + b) c := by
  unfold spent
  dsimp only
  have e : (c.sp.modify c.line (· + a)).modify c.line (· + b) = c.sp.modify c.line (· + (a + b)) := by
    apply List.ext_getElem
    · simp
    · intro j h1 h2
      simp only [List.getElem_modify]
      split <;> omega
  rw [e, show c.q - a - b = c.q - (a + b) by omega, show c.sh - a - b = c.sh - (a + b) by omega]
theorem charge_upC (e : look S.cards t = some c) : LSt.charge R (S.upC t (spent a)) t b = LSt.charge R S t (a + b) := by
  have e2 : look (S.upC t (spent a)).cards t = some (spent a c) := by rw [look_upC, if_pos rfl, e]; rfl
  have ef : (S.upC t (spent a)).upC t (spent b) = S.upC t (spent (a + b)) := by
    rw [LSt.upC_upC]
    congr 1
    funext d
    exact spent_spent
  unfold LSt.charge
  rw [LSt.card_of e, LSt.card_of e2]
  dsimp only
  rw [show (spent a c).sh - b = c.sh - (a + b) by unfold spent; dsimp only; omega, show (spent a c).q - b = c.q - (a + b) by unfold spent; dsimp only; omega]
  have ef' : (S.upC t (spent a)).upC t (fun c => { c with sp := c.sp.modify c.line (· + b), q := c.q - b, sh := c.sh - b }) = S.upC t (fun c => { c with sp := c.sp.modify c.line (· + (a + b)), q := c.q - (a + b), sh := c.sh - (a + b) }) := ef
  rw [ef']
  rfl
theorem charge_low (e : look S.cards t = some c) (h1 : a < c.q) (h2 : a < c.sh) : LSt.charge R S t a = S.upC t (spent a) := by
  unfold LSt.charge
  rw [LSt.card_of e]
  dsimp only
  rw [if_neg (by omega), if_neg (by omega)]
  rfl
theorem run_low (f : S.first = some t) (e : look S.cards t = some c) (h1 : a < c.q) (h2 : a < c.sh) : S.run R a = ({ S with time := S.time + a } : LSt).upC t (spent a) := by
  unfold LSt.run
  rw [first_time, f]
  exact charge_low (S := { S with time := S.time + a }) e h1 h2
theorem run_run (f : S.first = some t) (e : look S.cards t = some c) (h1 : a < c.q) (h2 : a < c.sh) : (S.run R a).run R b = S.run R (a + b) := by
  rw [run_low f e h1 h2]
  have f2 : (({ S with time := S.time + a } : LSt).upC t (spent a)).first = some t := f
  unfold LSt.run
  rw [first_time, f2, first_time, f]
  show LSt.charge R (({ S with time := S.time + a + b } : LSt).upC t (spent a)) t b = LSt.charge R { S with time := S.time + (a + b) } t (a + b)
  rw [charge_upC (S := { S with time := S.time + a + b }) e, Int.add_assoc]
theorem join_join {fs : List (Int × Int × Int × Int)} {b e e' t l : Int} : joinF (joinF fs b e t l) e e' t l = joinF fs b e' t l := by
  have k : ∀ (ys : List (Int × Int × Int × Int)) (z : Int), joinF (ys ++ [(z, e, t, l)]) e e' t l = ys ++ [(z, e', t, l)] := fun ys z => by
    unfold joinF
    rw [List.getLast?_concat]
    dsimp only
    rw [if_pos rfl, List.dropLast_concat]
  cases h : fs.getLast? with
  | none =>
    have e1 : ∀ e, joinF fs b e t l = fs ++ [(b, e, t, l)] := fun e => by unfold joinF; rw [h]
    rw [e1 e, e1 e', k]
  | some x =>
    by_cases z : x.2 = (b, t, l)
    · have e1 : ∀ e, joinF fs b e t l = fs.dropLast ++ [(x.1, e, t, l)] := fun e => by unfold joinF; rw [h]; dsimp only; rw [if_pos z]
      rw [e1 e, e1 e', k]
    · have e1 : ∀ e, joinF fs b e t l = fs ++ [(b, e, t, l)] := fun e => by unfold joinF; rw [h]; dsimp only; rw [if_neg z]
      rw [e1 e, e1 e', k]
theorem note_low (hx : p.left[i]? = some (x :: xs)) (h : k < x) : p.note (some ((i : Int), l)) b (b + k) = { p with left := p.left.set i ((x - k) :: xs), found := joinF p.found b (b + k) i l } := by
  have gd : p.left.getD i [] = x :: xs := by rw [List.getD_eq_getElem?_getD, hx]; rfl
  unfold Ply.note
  dsimp only
  rw [Int.toNat_natCast, gd, List.headD_cons, show b + k - b = k by omega, if_neg (by omega)]
  unfold Ply.less
  rw [Int.toNat_natCast, gd, List.headD_cons, List.tail_cons]
theorem note_note {e : Int} (hx : p.left[i]? = some (x :: xs)) (h : k < x) : Ply.note { p with left := p.left.set i ((x - k) :: xs), found := joinF p.found b (b + k) i l } (some ((i : Int), l)) (b + k) e = p.note (some ((i : Int), l)) b e := by
  have hi : i < p.left.length := (List.getElem?_eq_some_iff.mp hx).1
  have gd : p.left.getD i [] = x :: xs := by rw [List.getD_eq_getElem?_getD, hx]; rfl
  have gd2 : (p.left.set i ((x - k) :: xs)).getD i [] = (x - k) :: xs := by rw [List.getD_eq_getElem?_getD, List.getElem?_set_self hi]; rfl
  unfold Ply.note
  dsimp only
  rw [Int.toNat_natCast, gd, gd2, List.headD_cons, List.headD_cons, show x - k - (e - (b + k)) = x - (e - b) by omega]
  unfold Ply.less
  dsimp only
  rw [Int.toNat_natCast, gd, gd2, List.headD_cons, List.headD_cons, List.tail_cons, List.tail_cons, show x - k - (e - (b + k)) = x - (e - b) by omega, List.set_set, join_join]
theorem enter_none (h : ∀ x ∈ p.wk, x.1 ≠ now) : p.enter R now = p := by
  have e1 : getW p.wk now = [] := by
    unfold getW
    rw [List.find?_eq_none.mpr fun x hx => by simpa using h x hx]
    rfl
  have e2 : delW p.wk now = p.wk := by
    unfold delW
    exact List.filter_eq_self.mpr fun x hx => by simpa using h x hx
  unfold Ply.enter
  rw [e1, e2]
  have : sortI [] = [] := List.Perm.eq_nil (sortI_perm [])
  rw [this]
  rfl
theorem boost_none (h : ∀ b, R.boost = some b → p.S.time % b ≠ 0) : p.boost R = p := by
  have : p.S.boostNow R = p.S := by
    unfold LSt.boostNow LSt.due
    cases e : R.boost with
    | none => rfl
    | some b =>
      have := h b e
      dsimp only
      rw [if_neg (by simp [this])]
  unfold Ply.boost
  rw [this]
structure Gap (R : Rul) (p : Ply) (now : Int) (m : Int) : Prop where
  wk : ∀ x ∈ p.wk, now + m ≤ x.1
  bo : ∀ b, R.boost = some b → ∀ k, 0 < k → k < m → (now + k) % b ≠ 0
  ft : ∀ t, p.S.first = some t → ∃ (i : Nat) (x : Int) (xs : List Int) (c : Card), t = i ∧ p.left[i]? = some (x :: xs) ∧ m ≤ x ∧ look p.S.cards t = some c ∧ m ≤ c.q ∧ m ≤ c.sh
  tm : p.S.time = now
theorem Gap.step (g : Gap R p now m) (h0 : 0 < k) (h1 : k + 1 ≤ m) : p.runTo R now (now + (k + 1)) = (p.runTo R now (now + k)).tick R (now + k) := by
  have tick1 : ∀ q : Ply, (∀ x ∈ q.wk, x.1 ≠ now + k) → (∀ b, R.boost = some b → q.S.time % b ≠ 0) → q.tick R (now + k) = q.runTo R (now + k) (now + k + 1) := fun q h2 h3 => by
    unfold Ply.tick
    rw [enter_none h2, boost_none h3]
  cases f : p.S.first with
  | none =>
    have e1 : ∀ j, p.runTo R now (now + j) = { p with S := { p.S with time := p.S.time + j } } := fun j => by
      unfold Ply.runTo
      rw [ran_none f, run_none f, show now + j - now = j by omega]
      rfl
    rw [e1, e1, tick1 _ (fun x hx => by have := g.wk x hx; omega) (fun b hb => by
      show (p.S.time + k) % b ≠ 0
      rw [g.tm]; exact g.bo b hb k h0 (by omega))]
    have f2 : ({ p.S with time := p.S.time + k } : LSt).first = none := f
    unfold Ply.runTo
    dsimp only
    rw [ran_none (p := { p with S := { p.S with time := p.S.time + k } }) f2, run_none f2, show now + k + 1 - (now + k) = 1 by omega]
    show _ = ({ p with S := { p.S with time := p.S.time + k + 1 } } : Ply)
    rw [Int.add_assoc]
  | some t =>
    obtain ⟨i, x, xs, c, rfl, hx, mx, e, mq, ms⟩ := g.ft t f
    have er := ran_some f
    have e1 : p.runTo R now (now + k) = { p with S := p.S.run R k, left := p.left.set i ((x - k) :: xs), found := joinF p.found now (now + k) i (p.S.card i).line } := by
      unfold Ply.runTo
      rw [er, show now + k - now = k by omega]
      exact note_low (p := { p with S := p.S.run R k }) hx (by omega)
    have rl := run_low (R := R) f e (a := k) (by omega) (by omega)
    have tm2 : (p.S.run R k).time = now + k := by rw [time_run, g.tm]
    rw [e1, tick1 _ (fun x hx => by have := g.wk x hx; omega) (fun b hb => by
      show (p.S.run R k).time % b ≠ 0
      rw [tm2]; exact g.bo b hb k h0 (by omega))]
    have f2 : (p.S.run R k).first = some (i : Int) := by rw [rl]; exact f
    have c2 : look (p.S.run R k).cards i = some (spent k c) := by
      rw [rl, look_upC, if_pos rfl]
      show (look p.S.cards i).map _ = _
      rw [e]; rfl
    have er2 : (p.S.run R k).ran = some ((i : Int), (p.S.card i).line) := by
      unfold LSt.ran
      rw [f2]
      dsimp only
      rw [LSt.card_of c2, LSt.card_of e]
      rfl
    unfold Ply.runTo
    dsimp only
    rw [er, er2, show now + k + 1 - (now + k) = 1 by omega, show now + (k + 1) - now = k + 1 by omega, run_run f e (by omega) (by omega)]
    have := note_note (p := { p with S := p.S.run R (k + 1) }) (i := i) (x := x) (xs := xs) (k := k) (b := now) (l := (p.S.card i).line) (e := now + k + 1) hx (by omega)
    rw [show now + (k + 1) = now + k + 1 by omega]
    exact this.symm
theorem Gap.all {P : Ply} (g : Gap R ((P.ticks R n).enter R n |>.boost R) n m) {j : Nat} (h0 : 1 ≤ j) (h1 : (j : Int) ≤ m) : (((P.ticks R n).enter R n).boost R).runTo R n (n + j) = P.ticks R (n + j) := by
  induction j with
  | zero => omega
  | succ j ih =>
    by_cases z : j = 0
    · subst z; rfl
    · have e1 := ih (by omega) (by omega)
      have e2 := g.step (k := j) (by omega) (by omega)
      rw [e1] at e2
      rw [show ((j + 1 : Nat) : Int) = (j : Int) + 1 by omega, e2]
      show _ = (P.ticks R (n + j)).tick R ((n + j : Nat) : Int)
      congr 1
theorem foldl_min : ∀ {xs : List Int} {a : Int}, xs.foldl min a ≤ a ∧ (∀ x ∈ xs, xs.foldl min a ≤ x) ∧ ∀ b, b ≤ a → (∀ x ∈ xs, b ≤ x) → b ≤ xs.foldl min a
  | [], a => ⟨Int.le_refl _, fun _ h => (by cases h), fun _ h _ => h⟩
  | y :: r, a => by
    obtain ⟨h1, h2, h3⟩ := foldl_min (xs := r) (a := min a y)
    rw [List.foldl_cons]
    refine ⟨by omega, fun x hx => ?_, fun b hb hx => h3 b (by have := hx y List.mem_cons_self; omega) fun x h => hx x (List.mem_cons_of_mem _ h)⟩
    rcases List.mem_cons.mp hx with z | z
    · omega
    · exact h2 x z
theorem time_enter : (p.enter R now).S.time = p.S.time := by
  unfold Ply.enter
  dsimp only
  generalize sortI (getW p.wk now) = ts
  generalize p.S = S
  induction ts generalizing S with
  | nil => rfl
  | cons u r ih =>
    rw [List.foldl_cons, ih]
    unfold Ply.enter1
    split <;> rfl
theorem time_note {o : Option (Int × Nat)} {e : Int} : (p.note o b e).S.time = p.S.time := by
  unfold Ply.note
  cases o with
  | none => rfl
  | some tl =>
    dsimp only
    split
    · unfold Ply.over
      dsimp only
      split
      · rfl
      · show (LSt.go _ _).time = _
        exact time_go
    · rfl
theorem time_tickP : (p.tick R now).S.time = p.S.time + 1 := by
  unfold Ply.tick Ply.runTo
  rw [time_note]
  show (LSt.run R _ _).time = _
  rw [time_run, show now + 1 - now = 1 by omega]
  show (LSt.boostNow R _).time + 1 = _
  rw [time_boostNow, time_enter]
theorem time_ticks : (p.ticks R n).S.time = p.S.time + n := by
  induction n with
  | zero => exact (Int.add_zero _).symm
  | succ n ih =>
    show ((p.ticks R n).tick R n).S.time = _
    rw [time_tickP, ih]
    omega
/-- the next moment at which something else may come -/
theorem PInv.gap {til : Int} (h : PInv R n p now) (ok : R.Ok) (n0 : 0 ≤ now) (tm : p.S.time = now) (ht : now < til) : now < p.later R now til ∧ p.later R now til ≤ til ∧ Gap R ((p.enter R now).boost R) now (p.later R now til - now) ∧ PInv R n ((p.enter R now).boost R) now ∧
    (∀ x ∈ (p.enter R now).wk, now < x.1) := by
  obtain ⟨h1, h2⟩ := h.enter ok
  have h3 := h1.boost ok
  generalize hp : (p.enter R now).boost R = p0 at h3
  have hw : p0.wk = (p.enter R now).wk := by rw [← hp]; rfl
  obtain ⟨f1, f2, f3⟩ := foldl_min (xs := Ply.nexts R p0 now til) (a := til)
  have el : p.later R now til = (Ply.nexts R p0 now til).foldl min til := by unfold Ply.later; rw [hp]
  rw [el]
  have mw : ∀ x ∈ p0.wk, x.1 ∈ Ply.nexts R p0 now til := fun x hx => by
    unfold Ply.nexts
    refine List.mem_append_left _ (List.mem_append_left _ (List.mem_append_right _ (List.mem_filter.mpr ⟨List.mem_map.mpr ⟨x, hx, rfl⟩, ?_⟩)))
    rw [hw] at hx
    simpa using h2 x hx
  have mb : ∀ b, R.boost = some b → now - now % b + b ∈ Ply.nexts R p0 now til := fun b hb => by
    unfold Ply.nexts
    rw [hb]
    exact List.mem_append_left _ (List.mem_append_right _ (by simp))
  have hft : ∀ t, p0.S.first = some t → ∃ (i : Nat) (x : Int) (xs : List Int) (c : Card), t = i ∧ p0.left[i]? = some (x :: xs) ∧ look p0.S.cards t = some c ∧ 1 ≤ x ∧ 1 ≤ c.q ∧ 1 ≤ c.sh ∧ p0.S.card t = c ∧ (p0.left.getD t.toNat []).headD 0 = x := fun t f => by
    obtain ⟨c, c1, c2, _⟩ := run_some (R := R) (m := 1) h3.wf f
    obtain ⟨i, xs, rfl, e1, e2, _⟩ := h3.runOk t f
    cases xs with
    | nil => simp at e2
    | cons x xs =>
      refine ⟨i, x, xs, c, rfl, e1, c1, h3.lp i _ e1 (.inr (by rw [c1]; exact fun z => by cases z)) x List.mem_cons_self, (h3.bd.q i c c1 c2).1, (h3.bd.sh i c c1).1, LSt.card_of c1, ?_⟩
      rw [Int.toNat_natCast, List.getD_eq_getElem?_getD, e1]; rfl
  refine ⟨?_, f1, ⟨fun x hx => ?_, fun b hb k k0 k1 => ?_, fun t f => ?_, ?_⟩, h3, h2⟩
  · have := f3 (now + 1) (by omega) fun x hx => ?_
    · omega
    · unfold Ply.nexts at hx
      rcases List.mem_append.mp hx with hx | hx
      · rcases List.mem_append.mp hx with hx | hx
        · rcases List.mem_append.mp hx with hx | hx
          · rw [List.mem_singleton.mp hx]; omega
          · have := of_decide_eq_true (List.mem_filter.mp hx).2
            omega
        · split at hx
          · cases hx
          · rename_i b hb
            rw [List.mem_singleton.mp hx]
            have b5 := ok.boosts b hb
            have := Int.emod_lt_of_pos now (show 0 < b by omega)
            omega
      · split at hx
        · cases hx
        · rename_i t f
          obtain ⟨i, x', xs, c, rfl, e1, e2, x1, q1, s1, ec, eh⟩ := hft t f
          rw [ec, eh] at hx
          simp only [List.mem_cons, List.not_mem_nil, or_false] at hx
          omega
  · have := f2 _ (mw x hx)
    omega
  · have b5 := ok.boosts b hb
    have := f2 _ (mb b hb)
    have m0 := Int.emod_nonneg now (show b ≠ 0 by omega)
    rw [← Int.emod_add_emod, Int.emod_eq_of_lt (by omega) (by omega)]
    omega
  · obtain ⟨i, x, xs, c, rfl, e1, e2, x1, q1, s1, ec, eh⟩ := hft t f
    have m3 : ∀ y, y ∈ [now + c.q, now + c.sh, now + x] → y ∈ Ply.nexts R p0 now til := fun y hy => by
      unfold Ply.nexts
      rw [f]
      dsimp only
      rw [ec, eh]
      exact List.mem_append_right _ hy
    have a1 := f2 _ (m3 (now + c.q) (by simp))
    have a2 := f2 _ (m3 (now + c.sh) (by simp))
    have a3 := f2 _ (m3 (now + x) (by simp))
    exact ⟨i, x, xs, c, rfl, e1, by omega, e2, by omega, by omega⟩
  · rw [← hp]
    show (LSt.boostNow R _).time = _
    rw [time_boostNow, time_enter, tm]
/-- a leap is so many ticks -/
theorem leap_ticks {P : Ply} {N : Nat} {til : Int} (h : PInv R n P 0) (ok : R.Ok) (tm : P.S.time = 0) (ht : (N : Int) < til) : ∃ j : Nat, 1 ≤ j ∧ (N : Int) + j ≤ til ∧ (P.ticks R N).later R N til = ((N + j : Nat) : Int) ∧ (P.ticks R N).leap R N til = P.ticks R (N + j) := by
  have hN := (h.ticks ok N).1
  obtain ⟨g1, g2, g3, _⟩ := hN.gap ok (by omega) (by rw [time_ticks, tm]; omega) ht
  obtain ⟨j, hj⟩ := Int.eq_ofNat_of_zero_le (show 0 ≤ (P.ticks R N).later R N til - N by omega)
  refine ⟨j, by omega, by omega, by omega, ?_⟩
  rw [hj] at g3
  unfold Ply.leap
  rw [show (P.ticks R N).later R N til = (N : Int) + j by omega]
  exact g3.all (by omega) (Int.le_refl _)
end
end Qn

/-! M11: a play whose wakes are told task by task. -/
namespace Qn
open PySem L2
/-- lw: of each task the moment at which it comes or wakes next, or did last -/
structure WkR (wk : List (Int × List Int)) (n : Nat) (lw : List Int) (now : Int) : Prop where
  len : lw.length = n
  iff : ∀ (i : Nat), i < n → ∀ m, now ≤ m → ((i : Int) ∈ getW wk m ↔ lw[i]? = some m)
def inNow (lw : List Int) (now : Int) (j : Nat) : List Int := ((List.range j).filter fun i => decide (lw.getD i 0 = now)).map fun i : Nat => (i : Int)
section
variable {R : Rul} {p : Ply} {n : Nat} {now t : Int} {lw : List Int} {wk : List (Int × List Int)} {m : Int}
theorem inNow_succ {j : Nat} : inNow lw now (j + 1) = if lw.getD j 0 = now then inNow lw now j ++ [(j : Int)] else inNow lw now j := by
  unfold inNow
  rw [List.range_succ, List.filter_append, List.map_append]
  by_cases e : lw.getD j 0 = now
  · rw [if_pos e, List.filter_cons_of_pos (by simpa using e)]; rfl
  · rw [if_neg e, List.filter_cons_of_neg (by simpa using e)]; simp
theorem not_inNow {j : Nat} : (j : Int) ∉ inNow lw now j := fun h => by
  obtain ⟨i, hi, e⟩ := List.mem_map.mp h
  have := List.mem_range.mp (List.mem_filter.mp hi).1
  omega
theorem inNow_nodup {j : Nat} : (inNow lw now j).Nodup := List.Pairwise.map _ (fun a b (h : a ≠ b) e => h (Int.ofNat.inj e)) (List.nodup_range.filter _)
theorem WkR.inNow (r : WkR p.wk n lw now) (h : PInv R n p now) : inNow lw now n = sortI (getW p.wk now) := by
  refine sortI_uniq ?_ ?_
  · refine List.Pairwise.map _ (fun a b (q : a ≤ b) => Int.ofNat_le.mpr q) ?_
    exact (List.pairwise_lt_range.filter _).imp Nat.le_of_lt
  · refine (List.perm_ext_iff_of_nodup inNow_nodup (h.enOk now).nd).mpr fun t => ?_
    constructor
    · intro ht
      obtain ⟨i, hi, rfl⟩ := List.mem_map.mp ht
      obtain ⟨h1, h2⟩ := List.mem_filter.mp hi
      have h1 := List.mem_range.mp h1
      refine (r.iff i h1 now (Int.le_refl _)).mpr ?_
      have h3 : i < lw.length := by rw [r.len]; exact h1
      have h4 := of_decide_eq_true h2
      rw [List.getD_eq_getElem?_getD, List.getElem?_eq_getElem h3] at h4
      rw [List.getElem?_eq_getElem h3]
      exact congrArg some h4
    · intro ht
      have pm := getW_flat (m := now) h.kn
      obtain ⟨t0, t1, _⟩ := h.wt t (pm.mem_iff.mpr (List.mem_append_left _ ht))
      obtain ⟨i, rfl⟩ := Int.eq_ofNat_of_zero_le t0
      have hi : i < n := by omega
      have := (r.iff i hi now (Int.le_refl _)).mp ht
      refine List.mem_map.mpr ⟨i, List.mem_filter.mpr ⟨List.mem_range.mpr hi, ?_⟩, rfl⟩
      rw [List.getD_eq_getElem?_getD, this]
      simp
theorem getW_add : getW (addW wk m t) now = if now = m then getW wk m ++ [t] else getW wk now := by
  induction wk with
  | nil =>
    unfold addW getW
    by_cases e : now = m
    · subst e; simp
    · rw [if_neg e, List.find?_cons_of_neg (by simpa using fun z => e z.symm)]
  | cons p r ih =>
    unfold addW
    by_cases e : p.1 = m
    · rw [if_pos e]
      by_cases e2 : now = m
      · rw [if_pos e2]
        unfold getW
        rw [List.find?_cons_of_pos (by simpa [e2] using e), List.find?_cons_of_pos (by simpa using e)]
        rfl
      · rw [if_neg e2]
        unfold getW
        rw [List.find?_cons_of_neg (by simpa [e] using fun z => e2 z.symm), List.find?_cons_of_neg (by simpa [e] using fun z => e2 z.symm)]
    · rw [if_neg e]
      by_cases e3 : p.1 = now
      · have e2 : ¬ now = m := fun z => e (e3.trans z)
        rw [if_neg e2]
        unfold getW
        rw [List.find?_cons_of_pos (by simpa using e3), List.find?_cons_of_pos (by simpa using e3)]
      · unfold getW at ih ⊢
        rw [List.find?_cons_of_neg (by simpa using e3), ih]
        by_cases e2 : now = m
        · subst e2
          rw [if_pos rfl, if_pos rfl, List.find?_cons_of_neg (by simpa using e)]
        · rw [if_neg e2, if_neg e2, List.find?_cons_of_neg (by simpa using e3)]
theorem getW_del (h : m ≠ now) : getW (delW wk now) m = getW wk m := by
  unfold getW delW
  congr 2
  induction wk with
  | nil => rfl
  | cons p r ih =>
    by_cases e : p.1 = now
    · rw [List.filter_cons_of_neg (by simpa using e), ih, List.find?_cons_of_neg (by simpa [e] using fun z => h z.symm)]
    · rw [List.filter_cons_of_pos (by simpa using e)]
      by_cases e2 : p.1 = m
      · rw [List.find?_cons_of_pos (by simpa using e2), List.find?_cons_of_pos (by simpa using e2)]
      · rw [List.find?_cons_of_neg (by simpa using e2), List.find?_cons_of_neg (by simpa using e2), ih]
theorem WkR.del (r : WkR wk n lw now) : WkR (delW wk now) n lw (now + 1) := ⟨r.len, fun i hi m hm => by
  rw [getW_del (by omega)]
  exact r.iff i hi m (by omega)⟩
theorem WkR.add {i : Nat} {w : Int} (r : WkR wk n lw now) (hi : i < n) (hw : now ≤ w) (nw : (i : Int) ∉ (wk.map Prod.snd).flatten) : WkR (addW wk w i) n (lw.set i w) now := ⟨by rw [List.length_set]; exact r.len, fun j hj m hm => by
  have inW : ∀ m, (i : Int) ∉ getW wk m := fun m z => by
    refine nw (List.mem_flatten.mpr ⟨getW wk m, List.mem_map.mpr ⟨(m, getW wk m), getW_mem rfl (List.ne_nil_of_mem z), rfl⟩, z⟩)
  have hl : i < lw.length := by rw [r.len]; exact hi
  rw [getW_add, List.getElem?_set]
  by_cases ij : i = j
  · subst ij
    rw [if_pos rfl, if_pos hl]
    by_cases e : m = w
    · subst e; simp
    · rw [if_neg e]
      constructor
      · intro z; exact absurd z (inW m)
      · intro z; exact absurd (Option.some.inj z).symm e
  · rw [if_neg ij]
    by_cases e : m = w
    · subst e
      rw [if_pos rfl, List.mem_append]
      constructor
      · rintro (z | z)
        · exact (r.iff j hj m hm).mp z
        · exact absurd (show i = j by have := List.mem_singleton.mp z; omega) ij
      · intro z; exact .inl ((r.iff j hj m hm).mpr z)
    · rw [if_neg e]; exact r.iff j hj m hm⟩
theorem WkR.begin {ts : List (Int × List Int)} {S : LSt} (h : ∀ x ∈ ts, 0 ≤ x.1) : WkR (Ply.begin S ts).wk ts.length (ts.map Prod.fst) 0 := by
  refine ⟨List.length_map .., fun i hi m hm => ?_⟩
  have key : ∀ (xs : List ((Int × List Int) × Nat)) (w : List (Int × List Int)), ((i : Int) ∈ getW (xs.foldl (fun w x => addW w x.1.1 (x.2 : Nat)) w) m ↔ (i : Int) ∈ getW w m ∨ ∃ x ∈ xs, x.1.1 = m ∧ x.2 = i) := by
    intro xs
    induction xs with
    | nil => intro w; simp
    | cons x r ih =>
      intro w
      rw [List.foldl_cons, ih, getW_add]
      by_cases e : m = x.1.1
      · rw [if_pos e, List.mem_append, ← e]
        constructor
        · rintro ((z | z) | ⟨y, hy, z⟩)
          · exact .inl z
          · exact .inr ⟨x, List.mem_cons_self, e.symm, by have := List.mem_singleton.mp z; omega⟩
          · exact .inr ⟨y, List.mem_cons_of_mem _ hy, z⟩
        · rintro (z | ⟨y, hy, z1, z2⟩)
          · exact .inl (.inl z)
          · rcases List.mem_cons.mp hy with q | q
            · subst q; exact .inl (.inr (by rw [z2]; simp))
            · exact .inr ⟨y, q, z1, z2⟩
      · rw [if_neg e]
        constructor
        · rintro (z | ⟨y, hy, z⟩)
          · exact .inl z
          · exact .inr ⟨y, List.mem_cons_of_mem _ hy, z⟩
        · rintro (z | ⟨y, hy, z1, z2⟩)
          · exact .inl z
          · rcases List.mem_cons.mp hy with q | q
            · subst q; exact absurd z1.symm e
            · exact .inr ⟨y, q, z1, z2⟩
  have hb : (Ply.begin S ts).wk = ts.zipIdx.foldl (fun w x => addW w x.1.1 (x.2 : Nat)) [] := rfl
  rw [hb, key, List.getElem?_map]
  constructor
  · rintro (z | ⟨x, hx, z1, z2⟩)
    · cases z
    · obtain ⟨h1, h2⟩ := List.mem_zipIdx' hx
      have h3 : ts[x.2]? = some x.1 := by rw [List.getElem?_eq_getElem h1]; exact congrArg some h2.symm
      rw [← z2, h3]
      exact congrArg some z1
  · intro z
    obtain ⟨y, e1, e2⟩ := Option.map_eq_some_iff.mp z
    refine .inr ⟨(y, i), ?_, e2, rfl⟩
    rw [List.mem_zipIdx_iff_getElem?]
    exact e1
theorem runTo_more {i : Nat} {x : Int} {xs : List Int} (f : p.S.first = some (i : Int)) (hx : p.left[i]? = some (x :: xs)) (z : x - 1 ≠ 0) : p.runTo R now (now + 1) =
    { p with S := p.S.run R 1, left := p.left.set i ((x - 1) :: xs), found := joinF p.found now (now + 1) i (p.S.card i).line } := by
  have gd : p.left.getD i [] = x :: xs := by rw [List.getD_eq_getElem?_getD, hx]; rfl
  unfold Ply.runTo
  rw [ran_some f, show now + 1 - now = 1 by omega]
  unfold Ply.note
  dsimp only
  rw [Int.toNat_natCast, gd, List.headD_cons, show now + 1 - now = 1 by omega]
  unfold Ply.less
  dsimp only
  rw [Int.toNat_natCast, gd, List.headD_cons, List.tail_cons, if_neg z]
theorem runTo_end {i : Nat} {x : Int} (f : p.S.first = some (i : Int)) (hx : p.left[i]? = some [x]) (z : x - 1 = 0) : p.runTo R now (now + 1) =
    { p with S := (p.S.run R 1).go i, left := p.left.set i [x - 1], found := joinF p.found now (now + 1) i (p.S.card i).line, ends := p.ends.set i (some (now + 1)) } := by
  have hi : i < p.left.length := (List.getElem?_eq_some_iff.mp hx).1
  have gd : p.left.getD i [] = [x] := by rw [List.getD_eq_getElem?_getD, hx]; rfl
  unfold Ply.runTo
  rw [ran_some f, show now + 1 - now = 1 by omega]
  unfold Ply.note
  dsimp only
  rw [Int.toNat_natCast, gd, List.headD_cons, show now + 1 - now = 1 by omega]
  unfold Ply.less
  dsimp only
  rw [Int.toNat_natCast, gd, List.headD_cons, List.tail_cons, if_pos z]
  unfold Ply.over
  dsimp only
  rw [Int.toNat_natCast, List.getD_eq_getElem?_getD, List.getElem?_set_self hi, Option.getD_some]
theorem runTo_wait {i : Nat} {x w : Int} {r : List Int} (f : p.S.first = some (i : Int)) (hx : p.left[i]? = some (x :: w :: r)) (z : x - 1 = 0) : p.runTo R now (now + 1) =
    { p with S := (p.S.run R 1).wait i, left := p.left.set i r, found := joinF p.found now (now + 1) i (p.S.card i).line, wk := addW p.wk (now + 1 + w) i } := by
  have hi : i < p.left.length := (List.getElem?_eq_some_iff.mp hx).1
  have gd : p.left.getD i [] = x :: w :: r := by rw [List.getD_eq_getElem?_getD, hx]; rfl
  unfold Ply.runTo
  rw [ran_some f, show now + 1 - now = 1 by omega]
  unfold Ply.note
  dsimp only
  rw [Int.toNat_natCast, gd, List.headD_cons, show now + 1 - now = 1 by omega]
  unfold Ply.less
  dsimp only
  rw [Int.toNat_natCast, gd, List.headD_cons, List.tail_cons, if_pos z]
  unfold Ply.over
  dsimp only
  rw [Int.toNat_natCast, List.getD_eq_getElem?_getD, List.getElem?_set_self hi, Option.getD_some]
  dsimp only
  rw [List.set_set]
theorem runTo_none (f : p.S.first = none) : p.runTo R now (now + 1) = { p with S := p.S.run R 1 } := by
  unfold Ply.runTo
  rw [ran_none f, show now + 1 - now = 1 by omega]
  rfl
end
end Qn

/-! M12: runs, moment by moment. -/
namespace Qn
open PySem L2
abbrev Run4 := Int × Int × Int × Int
/-- who runs at a moment, at which line -/
def Ply.ranAt (R : Rul) (p : Ply) (now : Int) : Option (Int × Nat) := ((p.enter R now).boost R).S.ran
def setR (rows : List (Option (Int × Int))) (b e t l : Int) : List (Option (Int × Int)) := (List.range (e - b).toNat).foldl (fun r j => r.set (b.toNat + j) (some (t, l))) rows
def fillR (fs : List Run4) (rows : List (Option (Int × Int))) : List (Option (Int × Int)) := fs.foldl (fun r x => setR r x.1 x.2.1 x.2.2.1 x.2.2.2) rows
/-- runs as they may be ahead of a moment -/
def FOk (fs : List Run4) (n : Int) : Prop := ∀ x ∈ fs, 0 ≤ x.1 ∧ x.1 < x.2.1 ∧ x.2.1 ≤ n
section
variable {R : Rul} {p P : Ply} {n L : Nat} {now t l b e : Int} {fs : List Run4} {rows : List (Option (Int × Int))}
theorem found_note {o : Option (Int × Nat)} : (p.note o b e).found = match o with | none => p.found | some (t, l) => joinF p.found b e t l := by
  unfold Ply.note
  cases o with
  | none => rfl
  | some tl =>
    dsimp only
    split
    · unfold Ply.over
      split <;> rfl
    · rfl
theorem found_tick : (p.tick R now).found = match p.ranAt R now with | none => p.found | some (t, l) => joinF p.found now (now + 1) t l := by
  unfold Ply.tick Ply.runTo
  rw [found_note]
  rfl
theorem FOk.join (h : FOk fs n) : FOk (joinF fs n (n + 1) t l) ((n : Int) + 1) := by
  have old : FOk fs ((n : Int) + 1) := fun x hx => by
    have := h x hx
    omega
  unfold joinF
  split
  · rename_i x hx
    have hm := List.mem_of_getLast? hx
    have h0 := h x hm
    split
    · rename_i e
      intro y hy
      rcases List.mem_append.mp hy with z | z
      · exact old y ((List.dropLast_sublist _).subset z)
      · rw [List.mem_singleton.mp z]
        dsimp only
        omega
    · intro y hy
      rcases List.mem_append.mp hy with z | z
      · exact old y z
      · rw [List.mem_singleton.mp z]
        dsimp only
        omega
  · intro y hy
    rcases List.mem_append.mp hy with z | z
    · exact old y z
    · rw [List.mem_singleton.mp z]
      dsimp only
      omega
theorem FOk.ticks (h : P.found = []) (n : Nat) : FOk (P.ticks R n).found n := by
  induction n with
  | zero =>
    intro x hx
    have : x ∈ P.found := hx
    rw [h] at this; cases this
  | succ n ih =>
    have e : ((n + 1 : Nat) : Int) = (n : Int) + 1 := by omega
    rw [e]
    show FOk ((P.ticks R n).tick R n).found _
    rw [found_tick]
    cases (P.ticks R n).ranAt R n with
    | none => exact fun x hx => by have := ih x hx; omega
    | some tl => exact ih.join
theorem setR_succ (h0 : 0 ≤ b) (h1 : b ≤ n) : setR rows b (n + 1) t l = (setR rows b n t l).set n (some (t, l)) := by
  unfold setR
  rw [show ((n : Int) + 1 - b).toNat = ((n : Int) - b).toNat + 1 by omega, List.range_succ, List.foldl_append]
  show List.set _ _ _ = _
  rw [show b.toNat + ((n : Int) - b).toNat = n by omega]
theorem setR_one : setR rows n ((n : Int) + 1) t l = rows.set n (some (t, l)) := by
  rw [setR_succ (by omega) (Int.le_refl _)]
  unfold setR
  rw [show ((n : Int) - n).toNat = 0 by omega]
  rfl
theorem fillR_snoc {x : Run4} : fillR (fs ++ [x]) rows = setR (fillR fs rows) x.1 x.2.1 x.2.2.1 x.2.2.2 := by
  unfold fillR
  rw [List.foldl_append]
  rfl
theorem fill_join (h : FOk fs n) : fillR (joinF fs n (n + 1) t l) rows = (fillR fs rows).set n (some (t, l)) := by
  have app : fillR (fs ++ [((n : Int), (n : Int) + 1, t, l)]) rows = (fillR fs rows).set n (some (t, l)) := by
    rw [fillR_snoc]; exact setR_one
  rcases List.eq_nil_or_concat fs with e | ⟨ys, x, e⟩
  · subst e; exact app
  · rw [List.concat_eq_append] at e
    subst e
    by_cases z : x.2 = ((n : Int), t, l)
    · have e1 : joinF (ys ++ [x]) n (n + 1) t l = ys ++ [(x.1, (n : Int) + 1, t, l)] := by
        unfold joinF
        rw [List.getLast?_concat]
        dsimp only
        rw [if_pos z, List.dropLast_concat]
      have hx := h x (List.mem_append_right _ List.mem_cons_self)
      rw [e1, fillR_snoc, fillR_snoc, z]
      exact setR_succ hx.1 (by rw [z] at hx; dsimp only at hx; omega)
    · have e1 : joinF (ys ++ [x]) n (n + 1) t l = (ys ++ [x]) ++ [((n : Int), (n : Int) + 1, t, l)] := by
        unfold joinF
        rw [List.getLast?_concat]
        dsimp only
        rw [if_neg z]
      rw [e1]; exact app
/-- each moment's task and line -/
def Ply.hist (R : Rul) (P : Ply) (j : Nat) : Option (Int × Int) := ((P.ticks R j).ranAt R j).map fun x => (x.1, (x.2 : Int))
theorem rows_ticks (h : P.found = []) (n : Nat) : fillR (P.ticks R n).found (List.replicate L none) = (List.range L).map fun j => if j < n then P.hist R j else none := by
  induction n with
  | zero =>
    show fillR P.found _ = _
    rw [h]
    show List.replicate L none = _
    apply List.ext_getElem
    · simp
    · intro i h1 h2; simp
  | succ n ih =>
    show fillR ((P.ticks R n).tick R n).found _ = _
    rw [found_tick]
    have hh : P.hist R n = ((P.ticks R n).ranAt R n).map fun x => (x.1, (x.2 : Int)) := rfl
    cases e : (P.ticks R n).ranAt R n with
    | none =>
      dsimp only
      rw [ih]
      refine List.map_congr_left fun j hj => ?_
      by_cases z : j < n
      · rw [if_pos z, if_pos (by omega)]
      · rw [if_neg z]
        by_cases z2 : j < n + 1
        · have : j = n := by omega
          rw [if_pos z2, this, hh, e]; rfl
        · rw [if_neg z2]
    | some tl =>
      dsimp only
      rw [fill_join (FOk.ticks h n), ih]
      apply List.ext_getElem
      · simp
      · intro i h1 h2
        simp only [List.getElem_set, List.getElem_map, List.getElem_range]
        by_cases z : n = i
        · rw [if_pos z, if_pos (by omega), ← z, hh, e]; rfl
        · rw [if_neg z]
          by_cases z2 : i < n
          · rw [if_pos z2, if_pos (by omega)]
          · rw [if_neg z2, if_neg (by omega)]
end
end Qn

/-! M13: tasks told later by whole boosts. -/
namespace Qn
open PySem L2
def B0 (R : Rul) : LSt := ⟨[], List.replicate R.lines.length [], 0⟩
def LSt.lat (d : Int) (S : LSt) : LSt := { S with time := S.time + d }
def latR (d : Int) (x : Run4) : Run4 := (x.1 + d, x.2.1 + d, x.2.2)
def Ply.lat (d : Int) (p : Ply) : Ply := { S := p.S.lat d, left := p.left, wk := p.wk.map fun x => (x.1 + d, x.2), found := p.found.map (latR d), ends := p.ends.map (Option.map (· + d)) }
section
variable {R : Rul} {S : LSt} {p : Ply} {d now t l b e m z : Int} {n : Nat} {wk : List (Int × List Int)} {fs : List Run4}
theorem getW_lat : getW (wk.map fun x => (x.1 + d, x.2)) (m + d) = getW wk m := by
  unfold getW
  induction wk with
  | nil => rfl
  | cons p r ih =>
    rw [List.map_cons]
    by_cases e : p.1 = m
    · rw [List.find?_cons_of_pos (by simpa using e), List.find?_cons_of_pos (by simpa using e)]; rfl
    · rw [List.find?_cons_of_neg (by simpa using e), List.find?_cons_of_neg (by simpa using e)]; exact ih
theorem delW_lat : delW (wk.map fun x => (x.1 + d, x.2)) (m + d) = (delW wk m).map fun x => (x.1 + d, x.2) := by
  unfold delW
  induction wk with
  | nil => rfl
  | cons p r ih =>
    rw [List.map_cons]
    by_cases e : p.1 = m
    · rw [List.filter_cons_of_neg (by simpa using e), List.filter_cons_of_neg (by simpa using e)]; exact ih
    · rw [List.filter_cons_of_pos (by simpa using e), List.filter_cons_of_pos (by simpa using e), ih]; rfl
theorem addW_lat : addW (wk.map fun x => (x.1 + d, x.2)) (m + d) t = (addW wk m t).map fun x => (x.1 + d, x.2) := by
  induction wk with
  | nil => rfl
  | cons p r ih =>
    rw [List.map_cons]
    unfold addW
    by_cases e : p.1 = m
    · rw [if_pos (by simpa using e), if_pos e]; rfl
    · rw [if_neg (by simpa using e), if_neg e, ih]; rfl
theorem enter1_lat : Ply.enter1 R (S.lat d) t = (Ply.enter1 R S t).lat d := by
  unfold Ply.enter1
  show (if (look S.cards t).isSome = true then _ else _) = _
  split <;> rfl
theorem ents_lat : ∀ {ts : List Int} {S : LSt}, ts.foldl (Ply.enter1 R) (S.lat d) = (ts.foldl (Ply.enter1 R) S).lat d
  | [], _ => rfl
  | t :: r, S => by rw [List.foldl_cons, List.foldl_cons, enter1_lat, ents_lat (ts := r)]
theorem enter_lat : (p.lat d).enter R (now + d) = (p.enter R now).lat d := by
  unfold Ply.enter Ply.lat
  dsimp only
  rw [getW_lat, delW_lat, ents_lat]
theorem lays_lat : ∀ {ts : List Int} {S : LSt}, ts.foldl (fun S t => LSt.lay R S t 0) (S.lat d) = (ts.foldl (fun S t => LSt.lay R S t 0) S).lat d
  | [], _ => rfl
  | t :: r, S => by
    rw [List.foldl_cons, List.foldl_cons]
    exact lays_lat (ts := r) (S := LSt.lay R S t 0)
theorem boosted_lat : (S.lat d).boosted R = (S.boosted R).lat d := lays_lat (ts := (S.rows.drop 1).flatten) (S := S.clear R)
theorem boostNow_lat (h : (S.lat d).due R = S.due R) : (S.lat d).boostNow R = (S.boostNow R).lat d := by
  unfold LSt.boostNow
  rw [h]
  split
  · exact boosted_lat
  · rfl
theorem charge_lat : LSt.charge R (S.lat d) t m = (LSt.charge R S t m).lat d := by
  unfold LSt.charge
  dsimp only
  by_cases h1 : (S.card t).sh - m = 0
  · rw [if_pos (show ((S.lat d).card t).sh - m = 0 from h1), if_pos h1]
    by_cases h2 : (S.card t).line < S.rows.length - 1 ∨ (S.card t).q - m = 0
    · rw [if_pos (show ((S.lat d).card t).line < (S.lat d).rows.length - 1 ∨ ((S.lat d).card t).q - m = 0 from h2), if_pos h2]; rfl
    · rw [if_neg (show ¬ (((S.lat d).card t).line < (S.lat d).rows.length - 1 ∨ ((S.lat d).card t).q - m = 0) from h2), if_neg h2]; rfl
  · rw [if_neg (show ¬ ((S.lat d).card t).sh - m = 0 from h1), if_neg h1]
    by_cases h2 : (S.card t).q - m = 0
    · rw [if_pos (show ((S.lat d).card t).q - m = 0 from h2), if_pos h2]; rfl
    · rw [if_neg (show ¬ ((S.lat d).card t).q - m = 0 from h2), if_neg h2]; rfl
theorem run_lat : (S.lat d).run R m = (S.run R m).lat d := by
  have e0 : ({ S.lat d with time := (S.lat d).time + m } : LSt) = ({ S with time := S.time + m } : LSt).lat d := by
    show ({ S with time := S.time + d + m } : LSt) = { S with time := S.time + m + d }
    rw [Int.add_right_comm]
  unfold LSt.run
  rw [e0]
  have e1 : (({ S with time := S.time + m } : LSt).lat d).first = S.first := rfl
  have e2 : ({ S with time := S.time + m } : LSt).first = S.first := rfl
  rw [e1, e2]
  cases f : S.first with
  | none => rfl
  | some t => exact charge_lat
theorem join_lat : joinF (fs.map (latR d)) (b + d) (e + d) t l = (joinF fs b e t l).map (latR d) := by
  unfold joinF
  rw [List.getLast?_map]
  cases fs.getLast? with
  | none => simp [latR]
  | some x =>
    have e1 : (latR d x).2 = (b + d, t, l) ↔ x.2 = (b, t, l) := by
      obtain ⟨x1, x2, x3, x4⟩ := x
      unfold latR
      simp only [Prod.mk.injEq]
      constructor
      · rintro ⟨h1, h2⟩; exact ⟨by omega, h2⟩
      · rintro ⟨h1, h2⟩; exact ⟨by omega, h2⟩
    simp only [Option.map_some]
    by_cases h : x.2 = (b, t, l)
    · rw [if_pos (e1.mpr h), if_pos h, List.map_append, List.map_dropLast]; rfl
    · rw [if_neg fun z => h (e1.mp z), if_neg h, List.map_append]; rfl
theorem over_wait {u x w : Int} {r : List Int} (h : p.left.getD t.toNat [] = x :: w :: r) : p.over t u = { p with S := p.S.wait t, left := p.left.set t.toNat r, wk := addW p.wk (u + w) t } := by
  unfold Ply.over
  rw [h]
theorem over_go {u : Int} (h : (p.left.getD t.toNat []).length ≤ 1) : p.over t u = { p with S := p.S.go t, ends := p.ends.set t.toNat (some u) } := by
  unfold Ply.over
  split
  · rename_i e
    rw [e] at h
    simp at h
  · rfl
theorem go_lat : (S.lat d).go t = (S.go t).lat d := by
  unfold LSt.go
  by_cases h : (S.card t).rdy = true
  · rw [if_pos (show ((S.lat d).card t).rdy = true from h), if_pos h]; rfl
  · rw [if_neg (show ¬ ((S.lat d).card t).rdy = true from h), if_neg h]; rfl
theorem over_lat {u : Int} : (p.lat d).over t (u + d) = (p.over t u).lat d := by
  by_cases h : (p.left.getD t.toNat []).length ≤ 1
  · rw [over_go h, over_go (p := p.lat d) h]
    unfold Ply.lat
    dsimp only
    rw [go_lat, List.map_set]
    rfl
  · cases e : p.left.getD t.toNat [] with
    | nil => rw [e] at h; simp at h
    | cons x r =>
      cases r with
      | nil => rw [e] at h; simp at h
      | cons w r =>
        rw [over_wait e, over_wait (p := p.lat d) e]
        unfold Ply.lat
        dsimp only
        rw [show u + d + w = u + w + d from Int.add_right_comm .., addW_lat]
        rfl
theorem note_lat {o : Option (Int × Nat)} : (p.lat d).note o (b + d) (e + d) = (p.note o b e).lat d := by
  unfold Ply.note
  cases o with
  | none => rfl
  | some tl =>
    obtain ⟨t, l⟩ := tl
    dsimp only
    rw [show e + d - (b + d) = e - b by omega]
    show (if (p.left.getD t.toNat []).headD 0 - (e - b) = 0 then _ else _) = _
    have e1 : ({ (p.lat d).less t (e - b) with found := joinF (p.lat d).found (b + d) (e + d) t l } : Ply) = Ply.lat d { p.less t (e - b) with found := joinF p.found b e t l } := by
      show ({ (p.lat d).less t (e - b) with found := joinF (p.found.map (latR d)) (b + d) (e + d) t l } : Ply) = _
      rw [join_lat]
      rfl
    rw [e1]
    split
    · exact over_lat
    · rfl
theorem runTo_lat {u : Int} : (p.lat d).runTo R (now + d) (u + d) = (p.runTo R now u).lat d := by
  unfold Ply.runTo
  rw [show u + d - (now + d) = u - now by omega]
  show Ply.note { p.lat d with S := (p.S.lat d).run R (u - now) } p.S.ran (now + d) (u + d) = _
  rw [run_lat]
  exact note_lat (p := { p with S := p.S.run R (u - now) })
theorem due_lat (hd : 0 ≤ d) (h : ∀ b, R.boost = some b → d % b = 0) (ht : 0 < S.time) : (S.lat d).due R = S.due R := by
  unfold LSt.due
  cases hb : R.boost with
  | none => rfl
  | some b =>
    have e := h b hb
    show (decide (0 < S.time + d) && decide ((S.time + d) % b = 0)) = (decide (0 < S.time) && decide (S.time % b = 0))
    have e1 : (S.time + d) % b = S.time % b := by
      rw [Int.add_emod, e, Int.add_zero, Int.emod_emod_of_dvd _ (Int.dvd_refl b)]
    rw [e1, decide_eq_true ht, decide_eq_true (show 0 < S.time + d by omega)]
theorem tick_lat (hb : ((p.enter R now).S.lat d).boostNow R = ((p.enter R now).S.boostNow R).lat d) : (p.lat d).tick R (now + d) = (p.tick R now).lat d := by
  unfold Ply.tick
  rw [enter_lat]
  have e1 : ((p.enter R now).lat d).boost R = ((p.enter R now).boost R).lat d := by
    unfold Ply.boost
    show ({ (p.enter R now).lat d with S := ((p.enter R now).S.lat d).boostNow R } : Ply) = _
    rw [hb]; rfl
  rw [e1, show now + d + 1 = now + 1 + d by omega]
  exact runTo_lat
/-- all cards as fresh ones, in line 0 alone -/
def Fresh0 (R : Rul) (S : LSt) : Prop := (∀ x ∈ S.cards, x.2.line = 0 ∧ x.2.sh = R.s 0) ∧ ∃ r n, S.rows = r :: List.replicate n []
theorem Fresh0.boosted (h : Fresh0 R S) : S.boosted R = S := by
  obtain ⟨h1, r, n, h2⟩ := h
  have hf : (S.rows.drop 1).flatten = [] := by
    rw [h2]
    show (List.replicate n ([] : List Int)).flatten = []
    simp
  unfold LSt.boosted
  rw [hf]
  show S.clear R = S
  unfold LSt.clear
  have e1 : S.cards.map (fun p => (p.1, { p.2 with line := 0, sh := R.s 0 })) = S.cards := by
    rw [List.map_congr_left (g := id) fun x hx => ?_, List.map_id]
    obtain ⟨a1, a2⟩ := h1 x hx
    obtain ⟨u, c⟩ := x
    obtain ⟨c1, c2, c3, c4, c5⟩ := c
    dsimp only at a1 a2
    subst a1 a2
    rfl
  have e2 : S.row 0 :: List.replicate (S.rows.length - 1) [] = S.rows := by
    unfold LSt.row
    rw [h2]
    simp
  rw [e1, e2]
theorem Fresh0.boostNow (h : Fresh0 R S) : S.boostNow R = S := by
  unfold LSt.boostNow
  split
  · exact h.boosted
  · rfl
theorem Fresh0.lat (h : Fresh0 R S) : Fresh0 R (S.lat d) := h
theorem Fresh0.come (h : Fresh0 R S) : Fresh0 R (S.come R t) := by
  obtain ⟨h1, r, n, h2⟩ := h
  refine ⟨fun x hx => ?_, ?_⟩
  · have hx' : x ∈ (S.cards ++ [(t, LSt.fresh R S.rows.length)]).map (fun p => if p.1 = t then (p.1, { p.2 with line := 0, q := R.q 0 }) else p) := hx
    obtain ⟨y, hy, e⟩ := List.mem_map.mp hx'
    have hy2 : y.2.line = 0 ∧ y.2.sh = R.s 0 := by
      rcases List.mem_append.mp hy with z | z
      · exact h1 y z
      · rw [List.mem_singleton.mp z]; exact ⟨rfl, rfl⟩
    by_cases q : y.1 = t
    · rw [if_pos q] at e
      rw [← e]
      exact ⟨rfl, hy2.2⟩
    · rw [if_neg q] at e
      rw [← e]; exact hy2
  · refine ⟨r ++ [t], n, ?_⟩
    show S.rows.modify 0 (· ++ [t]) = _
    rw [h2]
    rfl
theorem Fresh0.ents : ∀ {ts : List Int} {S : LSt}, ts.Nodup → (∀ t ∈ ts, look S.cards t = none) → Fresh0 R S → Fresh0 R (ts.foldl (Ply.enter1 R) S)
  | [], _, _, _, h => h
  | t :: r, S, nd, hn, h => by
    have nd' := List.nodup_cons.mp nd
    rw [List.foldl_cons]
    have e : Ply.enter1 R S t = S.come R t := by
      unfold Ply.enter1
      rw [hn t List.mem_cons_self]; rfl
    rw [e]
    refine Fresh0.ents nd'.2 (fun u hu => ?_) h.come
    rw [look_come (hn t List.mem_cons_self), if_neg fun z : u = t => nd'.1 (z ▸ hu)]
    exact hn u (List.mem_cons_of_mem _ hu)
theorem fresh_begin (ok : R.Ok) : Fresh0 R (B0 R) := by
  have := ok.one
  refine ⟨fun x hx => (by cases hx), [], R.lines.length - 1, ?_⟩
  show List.replicate R.lines.length [] = _
  rw [← List.replicate_succ]
  congr 1
  omega
theorem begin_lat {ts : List (Int × List Int)} : Ply.begin ((B0 R).lat d) (ts.map fun x => (x.1 + d, x.2)) = (Ply.begin (B0 R) ts).lat d := by
  have key : ∀ (xs : List ((Int × List Int) × Nat)) (w : List (Int × List Int)), (xs.map fun x => ((x.1.1 + d, x.1.2), x.2)).foldl (fun w x => addW w x.1.1 (x.2 : Nat)) (w.map fun x => (x.1 + d, x.2)) = (xs.foldl (fun w x => addW w x.1.1 (x.2 : Nat)) w).map fun x => (x.1 + d, x.2) := by
    intro xs
    induction xs with
    | nil => intro w; rfl
    | cons x r ih =>
      intro w
      rw [List.map_cons, List.foldl_cons, List.foldl_cons, addW_lat]
      exact ih _
  have hz : (ts.map fun x => (x.1 + d, x.2)).zipIdx = ts.zipIdx.map fun x => ((x.1.1 + d, x.1.2), x.2) := by
    rw [List.zipIdx_map]; rfl
  unfold Ply.begin Ply.lat
  dsimp only
  rw [hz]
  have k1 := key ts.zipIdx []
  rw [List.map_nil] at k1
  rw [k1, List.map_map, List.map_map, List.map_map]
  rfl
/-- nothing is there yet -/
theorem ticks_wait {ts : List (Int × List Int)} (ok : R.Ok) (hk : ∀ x ∈ (Ply.begin (B0 R) ts).wk, d ≤ x.1) (n : Nat) (h : (n : Int) ≤ d) : (Ply.begin (B0 R) ts).ticks R n = Ply.begin ((B0 R).lat n) ts := by
  induction n with
  | zero => rfl
  | succ n ih =>
    show ((Ply.begin (B0 R) ts).ticks R n).tick R n = _
    rw [ih (by omega)]
    unfold Ply.tick
    rw [enter_none (p := Ply.begin ((B0 R).lat n) ts) fun x hx => by
      have := hk x hx
      omega]
    have e1 : (Ply.begin ((B0 R).lat n) ts).boost R = Ply.begin ((B0 R).lat n) ts := by
      unfold Ply.boost
      show ({ Ply.begin ((B0 R).lat n) ts with S := ((B0 R).lat n).boostNow R } : Ply) = _
      rw [(fresh_begin ok).lat.boostNow]
      rfl
    rw [e1]
    have ef : ((B0 R).lat n).first = none := first_none.mpr fun j => by
      show (List.replicate R.lines.length ([] : List Int)).getD j [] = []
      rw [List.getD_eq_getElem?_getD]
      rw [List.getElem?_replicate]
      split <;> rfl
    rw [runTo_none (p := Ply.begin ((B0 R).lat n) ts) ef]
    show ({ Ply.begin ((B0 R).lat n) ts with S := ((B0 R).lat n).run R 1 } : Ply) = _
    rw [run_none ef]
    rfl
theorem begin_keys {ts : List (Int × List Int)} {S : LSt} (h : ∀ x ∈ ts, d ≤ x.1) : ∀ x ∈ (Ply.begin S ts).wk, d ≤ x.1 := by
  have key : ∀ (xs : List ((Int × List Int) × Nat)) (w : List (Int × List Int)), (∀ x ∈ w, d ≤ x.1 ∧ x.2 ≠ []) → (∀ x ∈ xs, d ≤ x.1.1) → ∀ x ∈ xs.foldl (fun w x => addW w x.1.1 (x.2 : Nat)) w, d ≤ x.1 ∧ x.2 ≠ [] := by
    intro xs
    induction xs with
    | nil => intro w h _; exact h
    | cons x r ih =>
      intro w h k
      exact ih _ (addW_ok h (k x List.mem_cons_self)) fun y hy => k y (List.mem_cons_of_mem _ hy)
  intro x hx
  refine (key ts.zipIdx [] (fun x hx => by cases hx) (fun x hx => ?_) x hx).1
  have := (List.mem_zipIdx' hx).2
  rw [this]
  exact h _ (List.getElem_mem _)
theorem shift_ticks {ts : List (Int × List Int)} {D : Nat} (w0 : Wf R.lines.length [] (B0 R)) (ok : R.Ok) (tok : TasksOk ts) (h : ∀ b, R.boost = some b → (D : Int) % b = 0) (n : Nat) :
    (Ply.begin (B0 R) (ts.map fun x => (x.1 + (D : Int), x.2))).ticks R (D + n) = ((Ply.begin (B0 R) ts).ticks R n).lat D := by
  have iv := PInv.begin (R := R) (S := B0 R) (ts := ts) w0 rfl tok
  induction n with
  | zero =>
    rw [Nat.add_zero, ticks_wait ok (begin_keys (d := D) fun x hx => ?_) D (Int.le_refl _), begin_lat]
    · rfl
    · obtain ⟨y, hy, e⟩ := List.mem_map.mp hx
      have := (tok.2 y hy).1
      rw [← e]
      dsimp only
      omega
  | succ n ih =>
    show (Ply.ticks R _ (D + n)).tick R ((D + n : Nat) : Int) = (((Ply.begin (B0 R) ts).ticks R n).tick R n).lat D
    rw [ih, show ((D + n : Nat) : Int) = (n : Int) + D by omega]
    refine tick_lat ?_
    by_cases z : n = 0
    · subst z
      have fr : Fresh0 R ((Ply.begin (B0 R) ts).enter R 0).S := by
        have eo := iv.enOk 0
        have sp := sortI_perm (getW (Ply.begin (B0 R) ts).wk 0)
        exact Fresh0.ents (sp.nodup_iff.mpr eo.nd) (fun t _ => rfl) (fresh_begin ok)
      show (((Ply.begin (B0 R) ts).enter R 0).S.lat D).boostNow R = (((Ply.begin (B0 R) ts).enter R 0).S.boostNow R).lat D
      rw [fr.boostNow, fr.lat.boostNow]
    · refine boostNow_lat (due_lat (by omega) h ?_)
      rw [time_enter, time_ticks]
      show 0 < (0 : Int) + n
      omega
end
end Qn

/-! M14: runs rise; what judged tells of runs. -/
namespace Qn
open PySem L2
def FSort (fs : List Run4) : Prop := fs.Pairwise fun x y => x.2.1 ≤ y.1
section
variable {R : Rul} {p P : Ply} {n m : Nat} {now t l b e : Int} {fs xs ds : List Run4} {φ : Run4 → Prop}
theorem FSort.join (h : FOk fs n) (s : FSort fs) : FSort (joinF fs n (n + 1) t l) := by
  have app : FSort (fs ++ [((n : Int), (n : Int) + 1, t, l)]) := List.pairwise_append.mpr ⟨s, List.pairwise_singleton _ _, fun x hx y hy => by
    rw [List.mem_singleton.mp hy]
    exact (h x hx).2.2⟩
  rcases List.eq_nil_or_concat fs with e | ⟨ys, x, e⟩
  · subst e; exact app
  · rw [List.concat_eq_append] at e
    subst e
    unfold joinF
    rw [List.getLast?_concat]
    dsimp only
    split
    · rw [List.dropLast_concat]
      obtain ⟨s1, _, s3⟩ := List.pairwise_append.mp s
      exact List.pairwise_append.mpr ⟨s1, List.pairwise_singleton _ _, fun y hy z hz => by
        rw [List.mem_singleton.mp hz]
        exact s3 y hy x (List.mem_singleton_self x)⟩
    · exact app
theorem FSort.ticks (h : P.found = []) (n : Nat) : FSort (P.ticks R n).found := by
  induction n with
  | zero =>
    show FSort P.found
    rw [h]; exact List.Pairwise.nil
  | succ n ih =>
    show FSort ((P.ticks R n).tick R n).found
    rw [found_tick]
    cases (P.ticks R n).ranAt R n with
    | none => exact ih
    | some tl => exact ih.join (FOk.ticks h n)
theorem mem_join {x : Run4} (h : x ∈ joinF fs b e t l) : x ∈ fs ∨ x.2.2 = (t, l) := by
  unfold joinF at h
  split at h
  · split at h
    · rcases List.mem_append.mp h with z | z
      · exact .inl ((List.dropLast_sublist _).subset z)
      · rw [List.mem_singleton.mp z]; exact .inr rfl
    · rcases List.mem_append.mp h with z | z
      · exact .inl z
      · rw [List.mem_singleton.mp z]; exact .inr rfl
  · rcases List.mem_append.mp h with z | z
    · exact .inl z
    · rw [List.mem_singleton.mp z]; exact .inr rfl
/-- tasks and lines of runs -/
theorem FBd.ticks {k : Nat} (iv : PInv R k P 0) (ok : R.Ok) (h : P.found = []) (n : Nat) : ∀ x ∈ (P.ticks R n).found, 0 ≤ x.2.2.1 ∧ x.2.2.1 < k ∧ 0 ≤ x.2.2.2 ∧ x.2.2.2 < 4 := by
  induction n with
  | zero =>
    intro x hx
    have : x ∈ P.found := hx
    rw [h] at this; cases this
  | succ n ih =>
    have i1 := (iv.ticks ok n).1
    have i2 := (i1.enter ok).1.boost ok
    intro x hx
    have hx' : x ∈ ((P.ticks R n).tick R n).found := hx
    rw [found_tick] at hx'
    cases er : (P.ticks R n).ranAt R n with
    | none => rw [er] at hx'; exact ih x hx'
    | some tl =>
      rw [er] at hx'
      rcases mem_join hx' with z | z
      · exact ih x z
      · have er' : (((P.ticks R n).enter R n).boost R).S.ran = some tl := er
        generalize ((P.ticks R n).enter R n).boost R = q at i2 er'
        cases f : q.S.first with
        | none => rw [ran_none f] at er'; cases er'
        | some t =>
          rw [ran_some f] at er'
          obtain ⟨c, c1, c2, _⟩ := run_some (R := R) (m := 1) i2.wf f
          rw [LSt.card_of c1] at er'
          cases Option.some.inj er'
          have kc := i2.cn t c c1
          have kr := i2.wf.key t c c1
          have h4 := ok.four
          rw [z]
          dsimp only
          omega
/-! ### what judged tells -/
def badAt (xs ds : List Run4) (i : Nat) : Bool := decide (ds.length ≤ i) || decide (xs[i]? ≠ ds[i]?)
def wrongs (xs ds : List Run4) : List Nat := (List.range xs.length).filter (badAt xs ds)
def judgeL (xs ds : List Run4) : Option Int := match wrongs xs ds with
  | i :: _ => some (i : Nat)
  | [] => if xs.length = ds.length then none else some (xs.length : Nat)
theorem wrongs_at (h : ∀ i, i < n → i < ds.length ∧ xs[i]? = ds[i]?) (hn : n < xs.length) (hb : ds.length ≤ n ∨ xs[n]? ≠ ds[n]?) : ∃ r, wrongs xs ds = n :: r := by
  have hh : (wrongs xs ds).head? = some n := by
    unfold wrongs
    rw [List.head?_filter, List.find?_range_eq_some]
    refine ⟨?_, List.mem_range.mpr hn, fun j hj => ?_⟩
    · unfold badAt
      rcases hb with hb | hb
      · rw [decide_eq_true hb]; rfl
      · rw [decide_eq_true hb]; simp
    · obtain ⟨h1, h2⟩ := h j hj
      unfold badAt
      rw [decide_eq_false (by omega), decide_eq_false (fun z => z h2)]
      rfl
  cases e : wrongs xs ds with
  | nil => rw [e] at hh; cases hh
  | cons i r => rw [e] at hh; cases Option.some.inj hh; exact ⟨r, rfl⟩
theorem judge_at (h : ∀ i, i < n → i < ds.length ∧ xs[i]? = ds[i]?) (hn : n < xs.length) (hb : ds.length ≤ n ∨ xs[n]? ≠ ds[n]?) : judgeL xs ds = some (n : Int) := by
  obtain ⟨r, e⟩ := wrongs_at h hn hb
  unfold judgeL
  rw [e]
theorem wrongs_nil (h : ∀ i, i < xs.length → i < ds.length ∧ xs[i]? = ds[i]?) : wrongs xs ds = [] := by
  unfold wrongs
  refine List.filter_eq_nil_iff.mpr fun i hi => ?_
  obtain ⟨h1, h2⟩ := h i (List.mem_range.mp hi)
  unfold badAt
  rw [decide_eq_false (by omega), decide_eq_false (fun z => z h2)]
  simp
theorem judge_same : judgeL ds ds = none := by
  unfold judgeL
  rw [wrongs_nil fun i hi => ⟨hi, rfl⟩]
  dsimp only
  rw [if_pos rfl]
theorem judge_pre (hn : n < ds.length) : judgeL (ds.take n) ds = some (n : Int) := by
  have hl : (ds.take n).length = n := by rw [List.length_take]; omega
  unfold judgeL
  rw [wrongs_nil fun i hi => ⟨by omega, by rw [List.getElem?_take, if_pos (by omega)]⟩]
  dsimp only
  rw [if_neg (by omega), hl]
theorem judge_other {x : Run4} (hn : n < ds.length) (hx : ds[n]? ≠ some x) : judgeL (ds.take n ++ [x] ++ ds.drop (n + 1)) ds = some (n : Int) := by
  have hl : (ds.take n).length = n := by rw [List.length_take]; omega
  refine judge_at (fun i hi => ⟨by omega, ?_⟩) (by simp; omega) (.inr fun z => hx ?_)
  · rw [List.append_assoc, List.getElem?_append_left (by omega), List.getElem?_take, if_pos hi]
  · rw [List.append_assoc, List.getElem?_append_right (by omega), hl, Nat.sub_self] at z
    rw [← z]; rfl
theorem judge_twice {x : Run4} (s : FSort ds) (o : ∀ x ∈ ds, x.1 < x.2.1) (hx : ds[n]? = some x) : judgeL (ds.take n ++ [x, x] ++ ds.drop (n + 1)) ds = some ((n : Int) + 1) := by
  have hn := (List.getElem?_eq_some_iff.mp hx).1
  have hl : (ds.take n).length = n := by rw [List.length_take]; omega
  have := judge_at (n := n + 1) (xs := ds.take n ++ [x, x] ++ ds.drop (n + 1)) (ds := ds) (fun i hi => ⟨by omega, ?_⟩) (by simp; omega) ?_
  · rw [this]; rfl
  · rw [List.append_assoc]
    by_cases z : i < n
    · rw [List.getElem?_append_left (by omega), List.getElem?_take, if_pos z]
    · have : i = n := by omega
      subst this
      rw [List.getElem?_append_right (by omega), hl, Nat.sub_self, hx]; rfl
  · by_cases z : ds.length ≤ n + 1
    · exact .inl z
    · refine .inr fun y => ?_
      rw [List.append_assoc, List.getElem?_append_right (by omega), hl, show n + 1 - n = 1 by omega] at y
      have y2 : ds[n + 1]? = some x := y.symm
      obtain ⟨h1, h2⟩ := List.getElem?_eq_some_iff.mp y2
      obtain ⟨h3, h4⟩ := List.getElem?_eq_some_iff.mp hx
      have := List.pairwise_iff_getElem.mp s n (n + 1) h3 h1 (by omega)
      rw [h2, h4] at this
      have := o x (List.mem_of_getElem? hx)
      omega
theorem judge_less {x : Run4} (s : FSort ds) (o : ∀ x ∈ ds, x.1 < x.2.1) (hx : ds[n]? = some x) : judgeL (ds.take n ++ ds.drop (n + 1)) ds = some (n : Int) := by
  have hn := (List.getElem?_eq_some_iff.mp hx).1
  have hl : (ds.take n).length = n := by rw [List.length_take]; omega
  by_cases z : n + 1 < ds.length
  · refine judge_at (fun i hi => ⟨by omega, ?_⟩) (by simp; omega) (.inr fun y => ?_)
    · rw [List.getElem?_append_left (by omega), List.getElem?_take, if_pos hi]
    · rw [List.getElem?_append_right (by omega), hl, Nat.sub_self, List.getElem?_drop, Nat.add_zero, hx] at y
      obtain ⟨h1, h2⟩ := List.getElem?_eq_some_iff.mp y
      obtain ⟨h3, h4⟩ := List.getElem?_eq_some_iff.mp hx
      have := List.pairwise_iff_getElem.mp s n (n + 1) h3 h1 (by omega)
      rw [h2, h4] at this
      have := o x (List.mem_of_getElem? hx)
      omega
  · rw [List.drop_eq_nil_of_le (by omega), List.append_nil]
    exact judge_pre hn
theorem judge_more {x : Run4} : judgeL (ds ++ [x]) ds = some (ds.length : Int) := by
  refine judge_at (fun i hi => ⟨hi, List.getElem?_append_left hi⟩) (by simp) (.inl (Nat.le_refl _))
end
end Qn

/-! M15: of one task: its runs, what is left, its waits. -/
namespace Qn
open PySem L2
abbrev WSt := List Int × List (Int × Int)
/-- a run within one burst -/
def wS (st : WSt) (r : Int × Int) : WSt := match st.1 with
  | [] => st
  | [x] => ([x - (r.2 - r.1)], st.2)
  | x :: w :: tl => if x - (r.2 - r.1) = 0 then (tl, st.2 ++ [(r.2, w)]) else ((x - (r.2 - r.1)) :: w :: tl, st.2)
def wF (rs : List (Int × Int)) (bs : List Int) : WSt := rs.foldl wS (bs, [])
def runsOf (fs : List Run4) (i : Int) : List (Int × Int) := fs.filterMap fun x => if x.2.2.1 = i then some (x.1, x.2.1) else none
def ranOf (rs : List (Int × Int)) : Int := (rs.map fun r => r.2 - r.1).sum
/-- each run is within the burst that is due -/
def WV : List (Int × Int) → WSt → Prop
  | [], _ => True
  | r :: rs, st => (∃ x tl, st.1 = x :: tl ∧ 0 < r.2 - r.1 ∧ r.2 - r.1 ≤ x) ∧ WV rs (wS st r)
def odds : List Int → Int
  | [] => 0
  | [x] => x
  | x :: _ :: tl => x + odds tl
def evens : List Int → Int
  | [] => 0
  | [_] => 0
  | _ :: w :: tl => w + evens tl
section
variable {rs : List (Int × Int)} {r : Int × Int} {st : WSt} {bs tl : List Int} {fs : List Run4} {i t l b e n x w : Int}
theorem wF_snoc : wF (rs ++ [r]) bs = wS (wF rs bs) r := by
  unfold wF
  rw [List.foldl_append]; rfl
theorem WV_snoc : ∀ {rs : List (Int × Int)} {st : WSt}, WV (rs ++ [r]) st ↔ WV rs st ∧ ∃ x tl, (rs.foldl wS st).1 = x :: tl ∧ 0 < r.2 - r.1 ∧ r.2 - r.1 ≤ x
  | [], st => by
    show (_ ∧ True) ↔ True ∧ _
    simp
  | r' :: rs, st => by
    show (_ ∧ WV (rs ++ [r]) (wS st r')) ↔ (_ ∧ WV rs (wS st r')) ∧ _
    rw [WV_snoc (rs := rs), and_assoc]; rfl
theorem wS_one : wS ([x], tl') r = ([x - (r.2 - r.1)], tl') := rfl
theorem wS_more {cw : List (Int × Int)} (h : x - (r.2 - r.1) ≠ 0) : wS (x :: tl, cw) r = ((x - (r.2 - r.1)) :: tl, cw) := by
  cases tl with
  | nil => rfl
  | cons w tl => unfold wS; dsimp only; rw [if_neg h]
theorem wS_over {cw : List (Int × Int)} (h : x - (r.2 - r.1) = 0) : wS (x :: w :: tl, cw) r = (tl, cw ++ [(r.2, w)]) := by
  unfold wS; dsimp only; rw [if_pos h]
/-- sums -/
theorem wS_sum {x : Int} {tl : List Int} {cw : List (Int × Int)} : (r.2 - r.1) + odds (wS (x :: tl, cw) r).1 = odds (x :: tl) ∧ ((wS (x :: tl, cw) r).2.map (·.2)).sum + evens (wS (x :: tl, cw) r).1 = (cw.map (·.2)).sum + evens (x :: tl) := by
  cases tl with
  | nil => exact ⟨by show (r.2 - r.1) + (x - (r.2 - r.1)) = x; omega, rfl⟩
  | cons w tl =>
    by_cases h : x - (r.2 - r.1) = 0
    · rw [wS_over h]
      refine ⟨by show (r.2 - r.1) + odds tl = x + odds tl; omega, ?_⟩
      show ((cw ++ [(r.2, w)]).map (·.2)).sum + evens tl = (cw.map (·.2)).sum + (w + evens tl)
      rw [List.map_append, List.sum_append]
      show (cw.map (·.2)).sum + (w + 0) + evens tl = _
      omega
    · rw [wS_more h]
      refine ⟨by show (r.2 - r.1) + ((x - (r.2 - r.1)) + odds tl) = x + odds tl; omega, rfl⟩
theorem ranOf_snoc : ranOf (rs ++ [r]) = ranOf rs + (r.2 - r.1) := by
  unfold ranOf
  rw [List.map_append, List.sum_append]
  show _ + ((r.2 - r.1) + 0) = _
  omega
theorem wF_sum : ∀ {rs : List (Int × Int)} {st : WSt}, WV rs st → ranOf rs + odds (rs.foldl wS st).1 = odds st.1 ∧ ((rs.foldl wS st).2.map (·.2)).sum + evens (rs.foldl wS st).1 = (st.2.map (·.2)).sum + evens st.1
  | [], st, _ => ⟨by show (0 : Int) + odds st.1 = odds st.1; omega, rfl⟩
  | r :: rs, st, h => by
    obtain ⟨⟨x, tl, e, h1, h2⟩, h3⟩ := h
    obtain ⟨ih1, ih2⟩ := wF_sum (rs := rs) h3
    obtain ⟨s1, s2⟩ := st
    dsimp only at e
    subst e
    obtain ⟨g1, g2⟩ := wS_sum (r := r) (x := x) (tl := tl) (cw := s2)
    rw [List.foldl_cons]
    refine ⟨?_, by rw [ih2, g2]⟩
    have : ranOf (r :: rs) = (r.2 - r.1) + ranOf rs := by
      unfold ranOf
      rw [List.map_cons, List.sum_cons]
    rw [this]
    show (r.2 - r.1) + ranOf rs + _ = odds (x :: tl)
    omega
/-! runs of one task behind a moment -/
theorem runsOf_snoc {y : Run4} : runsOf (fs ++ [y]) i = runsOf fs i ++ (if y.2.2.1 = i then [(y.1, y.2.1)] else []) := by
  unfold runsOf
  rw [List.filterMap_append]
  congr 1
  by_cases h : y.2.2.1 = i
  · rw [if_pos h]; simp [h]
  · rw [if_neg h]; simp [h]
theorem runsOf_other (h : t ≠ i) : runsOf (joinF fs b e t l) i = runsOf fs i := by
  have app : runsOf (fs ++ [(b, e, t, l)]) i = runsOf fs i := by
    rw [runsOf_snoc, if_neg (show ¬ (b, e, t, l).2.2.1 = i from h), List.append_nil]
  rcases List.eq_nil_or_concat fs with q | ⟨ys, x, q⟩
  · subst q; exact app
  · rw [List.concat_eq_append] at q
    subst q
    rw [joinF_snoc']
    split
    · rename_i z
      rw [runsOf_snoc, runsOf_snoc, if_neg (show ¬ (x.1, e, t, l).2.2.1 = i from h), if_neg (by rw [z]; exact h)]
    · exact app
where
  joinF_snoc' {fd : List Run4} {x : Run4} {b e t l : Int} : joinF (fd ++ [x]) b e t l = if x.2 = (b, t, l) then fd ++ [(x.1, e, t, l)] else (fd ++ [x]) ++ [(b, e, t, l)] := by
    unfold joinF
    rw [List.getLast?_concat]
    dsimp only
    rw [List.dropLast_concat]
theorem runsOf_same : (∃ rs b0, runsOf fs t = rs ++ [(b0, b)] ∧ runsOf (joinF fs b e t l) t = rs ++ [(b0, e)]) ∨ runsOf (joinF fs b e t l) t = runsOf fs t ++ [(b, e)] := by
  have app : runsOf (fs ++ [(b, e, t, l)]) t = runsOf fs t ++ [(b, e)] := by
    rw [runsOf_snoc, if_pos (show (b, e, t, l).2.2.1 = t from rfl)]
  rcases List.eq_nil_or_concat fs with q | ⟨ys, x, q⟩
  · subst q; exact .inr app
  · rw [List.concat_eq_append] at q
    subst q
    rw [runsOf_other.joinF_snoc']
    split
    · rename_i z
      refine .inl ⟨runsOf ys t, x.1, ?_, ?_⟩
      · rw [runsOf_snoc, if_pos (by rw [z]), z]
      · rw [runsOf_snoc, if_pos (show (x.1, e, t, l).2.2.1 = t from rfl)]
    · exact .inr app
/-- one more moment of its run -/
theorem wF_join {N : Int} (hv : WV (runsOf fs t) (bs, [])) (hx : (wF (runsOf fs t) bs).1 = x :: tl) (x1 : 1 ≤ x) (hl : ∀ y ∈ (wF (runsOf fs t) bs).1, 1 ≤ y)
    (he : ∀ y ∈ (wF (runsOf fs t) bs).2, y.1 + y.2 ≤ N ∧ 1 ≤ y.2) : wF (runsOf (joinF fs N (N + 1) t l) t) bs = wS (wF (runsOf fs t) bs) (N, N + 1) ∧ WV (runsOf (joinF fs N (N + 1) t l) t) (bs, []) ∧ ranOf (runsOf (joinF fs N (N + 1) t l) t) = ranOf (runsOf fs t) + 1 := by
  rcases runsOf_same (fs := fs) (b := N) (e := N + 1) (t := t) (l := l) with ⟨rs, b0, e1, e2⟩ | e2
  · rw [e2]
    rw [e1] at hv hx hl he ⊢
    rw [WV_snoc] at hv ⊢
    obtain ⟨v1, x0, t0, v2, v3, v4⟩ := hv
    have hF : wF rs bs = (x0 :: t0, (wF rs bs).2) := by
      show (rs.foldl wS (bs, [])) = _
      rw [← v2]; rfl
    rw [wF_snoc] at hx hl he ⊢
    rw [wF_snoc, ranOf_snoc, ranOf_snoc]
    rw [hF] at hx hl he ⊢
    dsimp only at v3 v4 ⊢
    have hne : x0 - (N - b0) ≠ 0 := fun z => by
      cases t0 with
      | nil =>
        rw [wS_one] at hl
        have := hl (x0 - (N - b0)) List.mem_cons_self
        omega
      | cons w tl2 =>
        rw [wS_over (r := (b0, N)) z] at he
        have := he (N, w) (List.mem_append_right _ List.mem_cons_self)
        dsimp only at this
        omega
    have hm := wS_more (r := (b0, N)) (tl := t0) (cw := (wF rs bs).2) hne
    rw [hm] at hx ⊢
    have hx2 : x0 - (N - b0) = x ∧ t0 = tl := by
      have := List.cons.inj hx
      exact this
    refine ⟨?_, ⟨v1, x0, t0, v2, by omega, by omega⟩, by omega⟩
    by_cases z : x0 - (N + 1 - b0) = 0
    · cases t0 with
      | nil => show ([x0 - (N + 1 - b0)], _) = ([x0 - (N - b0) - (N + 1 - N)], _); rw [show x0 - (N - b0) - (N + 1 - N) = x0 - (N + 1 - b0) by omega]
      | cons w tl2 => rw [wS_over (r := (b0, N + 1)) z, wS_over (r := (N, N + 1)) (by dsimp only; omega)]
    · rw [wS_more (r := (b0, N + 1)) z, wS_more (r := (N, N + 1)) (by dsimp only; omega)]
      dsimp only
      rw [show x0 - (N - b0) - (N + 1 - N) = x0 - (N + 1 - b0) by omega]
  · rw [e2, wF_snoc, WV_snoc, ranOf_snoc]
    exact ⟨rfl, ⟨hv, x, tl, hx, by dsimp only; omega, by dsimp only; omega⟩, by dsimp only; omega⟩
end
end Qn

/-! M16: of one task: where it is ahead of a moment, within it. -/
namespace Qn
open PySem L2
abbrev Ply.W (P : Ply) (bs : List Int) (i : Nat) : WSt := wF (runsOf P.found i) bs
inductive At0 (bs : List Int) (mo : Int) (P : Ply) (N : Int) (i : Nat) : Prop
  | away : look P.S.cards i = none → P.ends[i]? = some none → (i : Int) ∈ getW P.wk mo → N ≤ mo → runsOf P.found i = [] → At0 bs mo P N i
  | ready (c : Card) : look P.S.cards i = some c → c.rdy = true → P.ends[i]? = some none → mo < N → (∀ y ∈ (P.W bs i).2, y.1 + y.2 < N) → At0 bs mo P N i
  | waits (c : Card) (ini : List (Int × Int)) (e w : Int) : look P.S.cards i = some c → c.rdy = false → P.ends[i]? = some none → mo < N → (P.W bs i).2 = ini ++ [(e, w)] → (i : Int) ∈ getW P.wk (e + w) → N ≤ e + w → (∀ y ∈ ini, y.1 + y.2 < N) → At0 bs mo P N i
  | gone (E : Int) : look P.S.cards i = none → P.ends[i]? = some (some E) → (i : Int) ∉ (P.wk.map Prod.snd).flatten → mo < E → E ≤ N → (P.W bs i).1 = [0] → (∀ y ∈ (P.W bs i).2, y.1 + y.2 < N) → At0 bs mo P N i
/-- within the moment, behind those that enter -/
inductive At1 (bs : List Int) (mo : Int) (q : Ply) (N : Int) (i : Nat) : Prop
  | away : look q.S.cards i = none → q.ends[i]? = some none → (i : Int) ∈ getW q.wk mo → N < mo → runsOf q.found i = [] → At1 bs mo q N i
  | ready (c : Card) : look q.S.cards i = some c → c.rdy = true → q.ends[i]? = some none → mo ≤ N → (∀ y ∈ (q.W bs i).2, y.1 + y.2 ≤ N) → At1 bs mo q N i
  | waits (c : Card) (ini : List (Int × Int)) (e w : Int) : look q.S.cards i = some c → c.rdy = false → q.ends[i]? = some none → mo ≤ N → (q.W bs i).2 = ini ++ [(e, w)] → (i : Int) ∈ getW q.wk (e + w) → N < e + w → (∀ y ∈ ini, y.1 + y.2 ≤ N) → At1 bs mo q N i
  | gone (E : Int) : look q.S.cards i = none → q.ends[i]? = some (some E) → (i : Int) ∉ (q.wk.map Prod.snd).flatten → mo < E → E ≤ N → (q.W bs i).1 = [0] → (∀ y ∈ (q.W bs i).2, y.1 + y.2 ≤ N) → At1 bs mo q N i
structure CI (bs : List Int) (mo : Int) (P : Ply) (N : Int) (i : Nat) : Prop where
  v : WV (runsOf P.found i) (bs, [])
  lf : P.left[i]? = some (P.W bs i).1
  es : ∀ y ∈ (P.W bs i).2, y.1 ≤ N ∧ 1 ≤ y.2
  st : At0 bs mo P N i
structure CM (bs : List Int) (mo : Int) (q : Ply) (N : Int) (i : Nat) : Prop where
  v : WV (runsOf q.found i) (bs, [])
  lf : q.left[i]? = some (q.W bs i).1
  es : ∀ y ∈ (q.W bs i).2, y.1 ≤ N ∧ 1 ≤ y.2
  st : At1 bs mo q N i
section
variable {R : Rul} {P q : Ply} {n i k : Nat} {N mo m : Int} {bs : List Int} {S : LSt} {c : Card}
theorem boost_some (h : look S.cards m = some c) : ∃ c', look (S.boostNow R).cards m = some c' ∧ c'.rdy = c.rdy := by
  unfold LSt.boostNow
  split
  · rw [look_boosted, h]; exact ⟨_, rfl, rfl⟩
  · exact ⟨c, h, rfl⟩
theorem boost_no (h : look S.cards m = none) : look (S.boostNow R).cards m = none := by
  unfold LSt.boostNow
  split
  · rw [look_boosted, h]; rfl
  · exact h
theorem in_flat {wk : List (Int × List Int)} {t : Int} (h : t ∈ getW wk m) : t ∈ (wk.map Prod.snd).flatten :=
  List.mem_flatten.mpr ⟨getW wk m, List.mem_map.mpr ⟨(m, getW wk m), getW_mem rfl (List.ne_nil_of_mem h), rfl⟩, h⟩
theorem not_twice {wk : List (Int × List Int)} {t m' : Int} (kn : (wk.map Prod.fst).Nodup) (wn : ((wk.map Prod.snd).flatten).Nodup) (h : t ∈ getW wk m) (hm : m ≠ m') : t ∉ getW wk m' := fun z => by
  have pm := getW_flat (m := m') kn
  obtain ⟨_, _, d⟩ := List.nodup_append.mp (pm.nodup_iff.mp wn)
  exact d t z t (in_flat (m := m) (by rw [getW_del hm]; exact h)) rfl
theorem CI.mid (iv : PInv R n P N) (h : CI bs mo P N i) : CM bs mo ((P.enter R N).boost R) N i := by
  have sp := sortI_perm (getW P.wk N)
  have nd := (iv.enOk N).nd
  have stay : (i : Int) ∉ getW P.wk N → look (P.enter R N).S.cards i = look P.S.cards i := fun z => look_ent (fun y => z (sp.mem_iff.mp y))
  have come : (i : Int) ∈ getW P.wk N → ∃ c, look (P.enter R N).S.cards i = some c ∧ c.rdy = true := fun z => look_in (sp.nodup_iff.mpr nd) (sp.mem_iff.mpr z)
  refine ⟨h.v, h.lf, h.es, ?_⟩
  cases h.st with
  | away h1 h2 h3 h4 h5 =>
    by_cases z : mo = N
    · obtain ⟨c, c1, c2⟩ := come (z ▸ h3)
      obtain ⟨c', c3, c4⟩ := boost_some (R := R) c1
      refine .ready c' c3 (c4.trans c2) h2 (by omega) fun y hy => ?_
      have : (P.W bs i).2 = [] := by unfold Ply.W; rw [h5]; rfl
      have hy' : y ∈ (P.W bs i).2 := hy
      rw [this] at hy'; cases hy'
    · refine .away (boost_no ((stay (not_twice iv.kn iv.wn h3 z)).trans h1)) h2 ?_ (by omega) h5
      show (i : Int) ∈ getW (delW P.wk N) mo
      rw [getW_del z]; exact h3
  | ready c h1 h2 h3 h4 h5 =>
    have no : (i : Int) ∉ getW P.wk N := fun z => by
      have := (iv.wt _ (in_flat z)).2.2 c h1
      rw [h2] at this; cases this
    obtain ⟨c', c3, c4⟩ := boost_some (R := R) ((stay no).trans h1)
    exact .ready c' c3 (c4.trans h2) h3 (by omega) fun y hy => by have := h5 y hy; omega
  | waits c ini e w h1 h2 h3 h4 h5 h6 h7 h8 =>
    by_cases z : e + w = N
    · obtain ⟨c, c1, c2⟩ := come (z ▸ h6)
      obtain ⟨c', c3, c4⟩ := boost_some (R := R) c1
      refine .ready c' c3 (c4.trans c2) h3 (by omega) fun y hy => ?_
      have hy' : y ∈ (P.W bs i).2 := hy
      rw [h5] at hy'
      rcases List.mem_append.mp hy' with y2 | y2
      · have := h8 y y2; omega
      · rw [List.mem_singleton.mp y2]; dsimp only; omega
    · obtain ⟨c', c3, c4⟩ := boost_some (R := R) ((stay (not_twice iv.kn iv.wn h6 z)).trans h1)
      refine .waits c' ini e w c3 (c4.trans h2) h3 (by omega) h5 ?_ (by omega) fun y hy => by have := h8 y hy; omega
      show (i : Int) ∈ getW (delW P.wk N) (e + w)
      rw [getW_del z]; exact h6
  | gone E h1 h2 h3 h4 h5 h6 h7 =>
    have no : (i : Int) ∉ getW P.wk N := fun z => h3 (in_flat z)
    refine .gone E (boost_no ((stay no).trans h1)) h2 (fun z => h3 ?_) h4 h5 h6 fun y hy => by have := h7 y hy; omega
    exact (getW_flat (m := N) iv.kn).mem_iff.mpr (List.mem_append_right _ z)
/-- a moment of which this task has nothing -/
theorem CM.other {q' : Ply} (h : CM bs mo q N i) (hr : runsOf q'.found i = runsOf q.found i) (hl : q'.left[i]? = q.left[i]?) (he : q'.ends[i]? = q.ends[i]?)
    (hn : look q.S.cards i = none → look q'.S.cards i = none) (hs : ∀ c, look q.S.cards i = some c → ∃ c', look q'.S.cards i = some c' ∧ c'.rdy = c.rdy)
    (hw : ∀ m, (i : Int) ∈ getW q.wk m → (i : Int) ∈ getW q'.wk m) (hf : (i : Int) ∉ (q.wk.map Prod.snd).flatten → (i : Int) ∉ (q'.wk.map Prod.snd).flatten) : CI bs mo q' (N + 1) i := by
  have eW : q'.W bs i = q.W bs i := by unfold Ply.W; rw [hr]
  refine ⟨by rw [hr]; exact h.v, by rw [hl, eW]; exact h.lf, fun y hy => by rw [eW] at hy; have := h.es y hy; omega, ?_⟩
  cases h.st with
  | away h1 h2 h3 h4 h5 => exact .away (hn h1) (he.trans h2) (hw _ h3) (by omega) (hr.trans h5)
  | ready c h1 h2 h3 h4 h5 =>
    obtain ⟨c', c1, c2⟩ := hs c h1
    exact .ready c' c1 (c2.trans h2) (he.trans h3) (by omega) fun y hy => by rw [eW] at hy; have := h5 y hy; omega
  | waits c ini e w h1 h2 h3 h4 h5 h6 h7 h8 =>
    obtain ⟨c', c1, c2⟩ := hs c h1
    exact .waits c' ini e w c1 (c2.trans h2) (he.trans h3) (by omega) (by rw [eW]; exact h5) (hw _ h6) (by omega) fun y hy => by have := h8 y hy; omega
  | gone E h1 h2 h3 h4 h5 h6 h7 => exact .gone E (hn h1) (he.trans h2) (hf h3) h4 (by omega) (by rw [eW]; exact h6) fun y hy => by rw [eW] at hy; have := h7 y hy; omega
theorem CM.run (iv : PInv R n q N) (h : CM bs mo q N i) : CI bs mo (q.runTo R N (N + 1)) (N + 1) i := by
  cases f : q.S.first with
  | none =>
    rw [runTo_none f]
    refine h.other rfl rfl rfl (fun z => ?_) (fun c z => ?_) (fun m z => z) (fun z => z)
    · show look (q.S.run R 1).cards i = none
      rw [run_none f]; exact z
    · refine ⟨c, ?_, rfl⟩
      show look (q.S.run R 1).cards i = some c
      rw [run_none f]; exact z
  | some t =>
    obtain ⟨k, xs, rfl, hx, ho, _, hk⟩ := iv.runOk t f
    obtain ⟨c, c1, c2, _, _, _, c3, _⟩ := run_some (R := R) (m := 1) iv.wf f
    have hxl := iv.lp k xs hx (.inr (by rw [c1]; exact fun z => by cases z))
    have kfl : (k : Int) ∉ (q.wk.map Prod.snd).flatten := fun z => by
      have := (iv.wt _ z).2.2 c c1
      rw [c2] at this; cases this
    cases xs with
    | nil => simp at ho
    | cons x r0 =>
    have x1 := hxl x List.mem_cons_self
    by_cases ik : i = k
    · subst ik
      have hq : (q.W bs i).1 = x :: r0 := by
        have := h.lf
        rw [hx] at this
        exact (Option.some.inj this).symm
      obtain ⟨mle, hen, hcw⟩ : mo ≤ N ∧ q.ends[i]? = some none ∧ ∀ y ∈ (q.W bs i).2, y.1 + y.2 ≤ N := by
        cases h.st with
        | away h1 _ _ _ _ => rw [c1] at h1; cases h1
        | ready c' h1 h2 h3 h4 h5 => exact ⟨h4, h3, h5⟩
        | waits c' _ _ _ h1 h2 _ _ _ _ _ _ =>
          rw [c1] at h1
          cases Option.some.inj h1
          rw [c2] at h2; cases h2
        | gone _ h1 _ _ _ _ _ _ => rw [c1] at h1; cases h1
      have es' : ∀ y ∈ (q.W bs i).2, y.1 + y.2 ≤ N ∧ 1 ≤ y.2 := fun y hy => ⟨hcw y hy, (h.es y hy).2⟩
      obtain ⟨j1, j2, j3⟩ := wF_join (l := ((q.S.card i).line : Nat)) (N := N) h.v hq x1 (by rw [hq]; exact hxl) es'
      have hil : i < q.left.length := (List.getElem?_eq_some_iff.mp hx).1
      have hc' : look (q.S.run R 1).cards i = some (chg R R.lines.length c 1) := by rw [c3, if_pos rfl]
      have hW : q.W bs i = (x :: r0, (q.W bs i).2) := by rw [← hq]
      by_cases z : x - 1 = 0
      · cases r0 with
        | nil =>
          rw [runTo_end f hx z]
          have e2 : wF (runsOf (joinF q.found N (N + 1) i ((q.S.card i).line : Nat)) i) bs = ([x - 1], (q.W bs i).2) := by
            rw [j1]
            show wS (q.W bs i) (N, N + 1) = _
            rw [hW, wS_one]
            dsimp only
            rw [show x - (N + 1 - N) = x - 1 by omega]
          refine ⟨j2, ?_, fun y hy => ?_, ?_⟩
          · show (q.left.set i [x - 1])[i]? = some (wF _ bs).1
            rw [List.getElem?_set_self hil, e2]
          · have hy' : y ∈ (wF (runsOf (joinF q.found N (N + 1) i ((q.S.card i).line : Nat)) i) bs).2 := hy
            rw [e2] at hy'
            have := h.es y hy'
            omega
          · refine .gone (N + 1) ?_ ?_ kfl (by omega) (Int.le_refl _) ?_ fun y hy => ?_
            · show look ((q.S.run R 1).go i).cards i = none
              rw [look_go, if_pos rfl]
            · show (q.ends.set i (some (N + 1)))[i]? = _
              rw [List.getElem?_set_self hk]
            · show (wF (runsOf (joinF q.found N (N + 1) i ((q.S.card i).line : Nat)) i) bs).1 = [0]
              rw [e2]
              dsimp only
              rw [z]
            · have hy' : y ∈ (wF (runsOf (joinF q.found N (N + 1) i ((q.S.card i).line : Nat)) i) bs).2 := hy
              rw [e2] at hy'
              have := hcw y hy'
              omega
        | cons w r =>
          rw [runTo_wait f hx z]
          have e2 : wF (runsOf (joinF q.found N (N + 1) i ((q.S.card i).line : Nat)) i) bs = (r, (q.W bs i).2 ++ [(N + 1, w)]) := by
            rw [j1]
            show wS (q.W bs i) (N, N + 1) = _
            rw [hW, wS_over (by dsimp only; omega)]
          have w1 := hxl w (by simp)
          refine ⟨j2, ?_, fun y hy => ?_, ?_⟩
          · show (q.left.set i r)[i]? = some (wF _ bs).1
            rw [List.getElem?_set_self hil, e2]
          · have hy' : y ∈ (wF (runsOf (joinF q.found N (N + 1) i ((q.S.card i).line : Nat)) i) bs).2 := hy
            rw [e2] at hy'
            rcases List.mem_append.mp hy' with y2 | y2
            · have := h.es y y2; omega
            · rw [List.mem_singleton.mp y2]; exact ⟨Int.le_refl _, w1⟩
          · have hlw : look ((q.S.run R 1).wait i).cards i = some { chg R R.lines.length c 1 with rdy := false } := by rw [look_wait, if_pos rfl, hc']; rfl
            refine .waits _ (q.W bs i).2 (N + 1) w hlw rfl hen (by omega) ?_ ?_ (by omega) fun y hy => by have := hcw y hy; omega
            · show (wF (runsOf (joinF q.found N (N + 1) i ((q.S.card i).line : Nat)) i) bs).2 = _
              rw [e2]
            · show (i : Int) ∈ getW (addW q.wk (N + 1 + w) i) (N + 1 + w)
              rw [getW_add, if_pos rfl]
              exact List.mem_append_right _ List.mem_cons_self
      · rw [runTo_more f hx z]
        have e2 : wF (runsOf (joinF q.found N (N + 1) i ((q.S.card i).line : Nat)) i) bs = ((x - 1) :: r0, (q.W bs i).2) := by
          rw [j1]
          show wS (q.W bs i) (N, N + 1) = _
          rw [hW, wS_more (by dsimp only; omega)]
          dsimp only
          rw [show x - (N + 1 - N) = x - 1 by omega]
        refine ⟨j2, ?_, fun y hy => ?_, ?_⟩
        · show (q.left.set i ((x - 1) :: r0))[i]? = some (wF _ bs).1
          rw [List.getElem?_set_self hil, e2]
        · have hy' : y ∈ (wF (runsOf (joinF q.found N (N + 1) i ((q.S.card i).line : Nat)) i) bs).2 := hy
          rw [e2] at hy'
          have := h.es y hy'
          omega
        · refine .ready _ hc' c2 hen (by omega) fun y hy => ?_
          have hy' : y ∈ (wF (runsOf (joinF q.found N (N + 1) i ((q.S.card i).line : Nat)) i) bs).2 := hy
          rw [e2] at hy'
          have := hcw y hy'
          omega
    · have ik' : ¬ (i : Int) = (k : Int) := fun z => ik (by omega)
      have ki' : ¬ (k : Int) = (i : Int) := fun z => ik (by omega)
      have hrun : look (q.S.run R 1).cards i = look q.S.cards i := by rw [c3, if_neg ik']
      have hro : runsOf (joinF q.found N (N + 1) k ((q.S.card k).line : Nat)) i = runsOf q.found i := runsOf_other ki'
      by_cases z : x - 1 = 0
      · cases r0 with
        | nil =>
          rw [runTo_end f hx z]
          have hlk : look ((q.S.run R 1).go k).cards i = look q.S.cards i := by rw [look_go, if_neg ik']; exact hrun
          exact h.other hro (List.getElem?_set_ne (fun y => ik y.symm)) (List.getElem?_set_ne (fun y => ik y.symm)) (fun y => hlk.trans y) (fun c y => ⟨c, hlk.trans y, rfl⟩) (fun m y => y) (fun y => y)
        | cons w r =>
          rw [runTo_wait f hx z]
          have hlk : look ((q.S.run R 1).wait k).cards i = look q.S.cards i := by rw [look_wait, if_neg ik']; exact hrun
          refine h.other hro (List.getElem?_set_ne (fun y => ik y.symm)) rfl (fun y => hlk.trans y) (fun c y => ⟨c, hlk.trans y, rfl⟩) (fun m y => ?_) (fun y y2 => ?_)
          · show (i : Int) ∈ getW (addW q.wk (N + 1 + w) k) m
            rw [getW_add]
            split
            · rename_i e; exact List.mem_append_left _ (e ▸ y)
            · exact y
          · rcases List.mem_cons.mp ((addW_flat (wk := q.wk) (m := N + 1 + w) (t := (k : Int))).mem_iff.mp y2) with y3 | y3
            · exact ik' y3
            · exact y y3
      · rw [runTo_more f hx z]
        exact h.other hro (List.getElem?_set_ne (fun y => ik y.symm)) rfl (fun y => hrun.trans y) (fun c y => ⟨c, hrun.trans y, rfl⟩) (fun m y => y) (fun y => y)
theorem CI.tick (iv : PInv R n P N) (ok : R.Ok) (h : CI bs mo P N i) : CI bs mo (P.tick R N) (N + 1) i := by
  have e := iv.enter ok
  exact (h.mid iv).run (e.1.boost ok)
theorem CI.ticks {j : Nat} (iv : PInv R n P 0) (ok : R.Ok) (h : CI bs mo P 0 i) : CI bs mo (P.ticks R j) j i := by
  induction j with
  | zero => exact h
  | succ j ih =>
    rw [show ((j + 1 : Nat) : Int) = (j : Int) + 1 by omega]
    exact ih.tick (iv.ticks ok j).1 ok
theorem CI.begin {ts : List (Int × List Int)} (hc : S.cards = []) (tok : TasksOk ts) (hi : ts[i]? = some (mo, bs)) : CI bs mo (Ply.begin S ts) 0 i := by
  have hl := (List.getElem?_eq_some_iff.mp hi).1
  have rv := WkR.begin (S := S) (ts := ts) fun x hx => (tok.2 x hx).1
  have m0 := (tok.2 _ (List.mem_of_getElem? hi)).1
  refine ⟨trivial, ?_, fun y hy => (by cases hy), .away ?_ ?_ ?_ m0 rfl⟩
  · show (ts.map (·.2))[i]? = some bs
    rw [List.getElem?_map, hi]; rfl
  · show look S.cards i = none
    rw [hc]; rfl
  · show (ts.map fun _ => (none : Option Int))[i]? = some none
    rw [List.getElem?_map, hi]; rfl
  · exact (rv.iff i hl mo m0).mpr (by rw [List.getElem?_map, hi]; rfl)
end
end Qn

/-! M17: how many moments a task ran, was ready, waited. -/
namespace Qn
open PySem L2
def fW (cw : List (Int × Int)) (U : Int) : Int := (cw.map fun y => if U - y.1 < y.2 then U - y.1 else y.2).sum
def thereOf (o : Option Int) (U mo : Int) : Int := if o.getD U - mo > 0 then o.getD U - mo else 0
def Ply.cnt (P : Ply) (bs : List Int) (mo U : Int) (i : Nat) : Int × Int × Int :=
  (ranOf (runsOf P.found i), thereOf (P.ends.getD i none) U mo - ranOf (runsOf P.found i) - fW (P.W bs i).2 U, fW (P.W bs i).2 U)
inductive Gain (q : Ply) (N mo : Int) (i : Nat) : Int × Int × Int → Prop
  | run (l : Nat) : q.S.ran = some ((i : Int), l) → mo ≤ N → q.ends[i]? = some none → Gain q N mo i (1, 0, 0)
  | ready (c : Card) : look q.S.cards i = some c → c.rdy = true → (∀ l, q.S.ran ≠ some ((i : Int), l)) → mo ≤ N → q.ends[i]? = some none → Gain q N mo i (0, 1, 0)
  | wait (c : Card) : look q.S.cards i = some c → c.rdy = false → (∀ l, q.S.ran ≠ some ((i : Int), l)) → mo ≤ N → q.ends[i]? = some none → Gain q N mo i (0, 0, 1)
  | away : look q.S.cards i = none → (∀ l, q.S.ran ≠ some ((i : Int), l)) → N < mo → q.ends[i]? = some none → Gain q N mo i (0, 0, 0)
  | gone (E : Int) : look q.S.cards i = none → (∀ l, q.S.ran ≠ some ((i : Int), l)) → q.ends[i]? = some (some E) → mo < E → E ≤ N → Gain q N mo i (0, 0, 0)
section
variable {R : Rul} {P q : Ply} {n i k : Nat} {N mo m U : Int} {bs : List Int} {S : LSt} {c : Card} {cw : List (Int × Int)} {l : Nat}
theorem fW_snoc {y : Int × Int} : fW (cw ++ [y]) U = fW cw U + (if U - y.1 < y.2 then U - y.1 else y.2) := by
  unfold fW
  rw [List.map_append, List.sum_append]
  show _ + ((if U - y.1 < y.2 then U - y.1 else y.2) + 0) = _
  omega
theorem fW_done (h : ∀ y ∈ cw, y.1 + y.2 ≤ N) (hu : N ≤ U) : fW cw U = (cw.map (·.2)).sum := by
  unfold fW
  congr 1
  refine List.map_congr_left fun y hy => ?_
  have := h y hy
  rw [if_neg (by omega)]
theorem ran_first (h : q.S.ran = some ((i : Int), l)) : q.S.first = some (i : Int) := by
  unfold LSt.ran at h
  cases f : q.S.first with
  | none => rw [f] at h; cases h
  | some t => rw [f] at h; cases Option.some.inj h; rfl
theorem ran_other (iv : PInv R n q N) (h : ∀ l, q.S.ran ≠ some ((i : Int), l)) : runsOf (q.runTo R N (N + 1)).found i = runsOf q.found i ∧ (q.runTo R N (N + 1)).ends[i]? = q.ends[i]? := by
  cases f : q.S.first with
  | none => rw [runTo_none f]; exact ⟨rfl, rfl⟩
  | some t =>
    obtain ⟨k, xs, rfl, hx, ho, _, hk⟩ := iv.runOk t f
    have ki : k ≠ i := fun z => h _ (z ▸ ran_some f)
    have ki' : ¬ (k : Int) = (i : Int) := fun z => ki (by omega)
    have hro : runsOf (joinF q.found N (N + 1) k ((q.S.card k).line : Nat)) i = runsOf q.found i := runsOf_other ki'
    cases xs with
    | nil => simp at ho
    | cons x r0 =>
      by_cases z : x - 1 = 0
      · cases r0 with
        | nil => rw [runTo_end f hx z]; exact ⟨hro, List.getElem?_set_ne ki⟩
        | cons w r => rw [runTo_wait f hx z]; exact ⟨hro, rfl⟩
      · rw [runTo_more f hx z]; exact ⟨hro, rfl⟩
theorem getD_some {α : Type} {xs : List α} {i : Nat} {x d : α} (h : xs[i]? = some x) : xs.getD i d = x := by
  rw [List.getD_eq_getElem?_getD, h]; rfl
theorem ran_self (iv : PInv R n q N) (h : CM bs mo q N i) (f : q.S.first = some (i : Int)) : (mo ≤ N ∧ q.ends[i]? = some none ∧ ∀ y ∈ (q.W bs i).2, y.1 + y.2 ≤ N) ∧
    ranOf (runsOf (q.runTo R N (N + 1)).found i) = ranOf (runsOf q.found i) + 1 ∧ fW ((q.runTo R N (N + 1)).W bs i).2 (N + 1) = fW (q.W bs i).2 (N + 1) ∧ thereOf ((q.runTo R N (N + 1)).ends.getD i none) (N + 1) mo = N + 1 - mo := by
  obtain ⟨k, xs, ik, hx, ho, _, hk⟩ := iv.runOk _ f
  have : i = k := by omega
  subst this
  obtain ⟨c, c1, c2, _⟩ := run_some (R := R) (m := 1) iv.wf f
  have hxl := iv.lp i xs hx (.inr (by rw [c1]; exact fun z => by cases z))
  cases xs with
  | nil => simp at ho
  | cons x r0 =>
  have x1 := hxl x List.mem_cons_self
  have hq : (q.W bs i).1 = x :: r0 := by
    have := h.lf
    rw [hx] at this
    exact (Option.some.inj this).symm
  have hst : mo ≤ N ∧ q.ends[i]? = some none ∧ ∀ y ∈ (q.W bs i).2, y.1 + y.2 ≤ N := by
    cases h.st with
    | away h1 _ _ _ _ => rw [c1] at h1; cases h1
    | ready c' h1 h2 h3 h4 h5 => exact ⟨h4, h3, h5⟩
    | waits c' _ _ _ h1 h2 _ _ _ _ _ _ =>
      rw [c1] at h1
      cases Option.some.inj h1
      rw [c2] at h2; cases h2
    | gone _ h1 _ _ _ _ _ _ => rw [c1] at h1; cases h1
  obtain ⟨mle, hen, hcw⟩ := hst
  have es' : ∀ y ∈ (q.W bs i).2, y.1 + y.2 ≤ N ∧ 1 ≤ y.2 := fun y hy => ⟨hcw y hy, (h.es y hy).2⟩
  obtain ⟨j1, j2, j3⟩ := wF_join (l := ((q.S.card i).line : Nat)) (N := N) h.v hq x1 (by rw [hq]; exact hxl) es'
  have hW : q.W bs i = (x :: r0, (q.W bs i).2) := by rw [← hq]
  have hth : thereOf (q.ends.getD i none) (N + 1) mo = N + 1 - mo := by
    rw [getD_some hen]
    unfold thereOf
    show (if N + 1 - mo > 0 then N + 1 - mo else 0) = _
    rw [if_pos (by omega)]
  refine ⟨⟨mle, hen, hcw⟩, ?_⟩
  by_cases z : x - 1 = 0
  · cases r0 with
    | nil =>
      rw [runTo_end f hx z]
      refine ⟨j3, ?_, ?_⟩
      · show fW (wF (runsOf (joinF q.found N (N + 1) i ((q.S.card i).line : Nat)) i) bs).2 (N + 1) = _
        rw [j1]
        show fW (wS (q.W bs i) (N, N + 1)).2 (N + 1) = _
        rw [hW, wS_one]
      · show thereOf ((q.ends.set i (some (N + 1))).getD i none) (N + 1) mo = _
        rw [getD_some (List.getElem?_set_self hk)]
        unfold thereOf
        show (if N + 1 - mo > 0 then N + 1 - mo else 0) = _
        rw [if_pos (by omega)]
    | cons w r =>
      rw [runTo_wait f hx z]
      refine ⟨j3, ?_, hth⟩
      show fW (wF (runsOf (joinF q.found N (N + 1) i ((q.S.card i).line : Nat)) i) bs).2 (N + 1) = _
      rw [j1]
      show fW (wS (q.W bs i) (N, N + 1)).2 (N + 1) = _
      rw [hW, wS_over (by dsimp only; omega), fW_snoc]
      have w1 := hxl w (by simp)
      dsimp only
      rw [if_pos (by omega)]
      omega
  · rw [runTo_more f hx z]
    refine ⟨j3, ?_, hth⟩
    show fW (wF (runsOf (joinF q.found N (N + 1) i ((q.S.card i).line : Nat)) i) bs).2 (N + 1) = _
    rw [j1]
    show fW (wS (q.W bs i) (N, N + 1)).2 (N + 1) = _
    rw [hW, wS_more (by dsimp only; omega)]
theorem there_none (h : mo ≤ U) : thereOf none U mo = U - mo := by
  unfold thereOf
  show (if U - mo > 0 then U - mo else 0) = _
  split <;> omega
/-- what one moment brings -/
theorem CI.gain (iv : PInv R n P N) (ok : R.Ok) (h : CI bs mo P N i) : ∃ g : Int × Int × Int, Gain ((P.enter R N).boost R) N mo i g ∧
    (P.tick R N).cnt bs mo (N + 1) i = ((P.cnt bs mo N i).1 + g.1, (P.cnt bs mo N i).2.1 + g.2.1, (P.cnt bs mo N i).2.2 + g.2.2) := by
  have hm := h.mid iv
  have e := iv.enter ok
  have iq := e.1.boost ok
  have htk : P.tick R N = ((P.enter R N).boost R).runTo R N (N + 1) := rfl
  have c0 : P.cnt bs mo N i = ((P.enter R N).boost R).cnt bs mo N i := rfl
  rw [htk, c0]
  generalize (P.enter R N).boost R = q at hm iq
  by_cases hr : ∃ l, q.S.ran = some ((i : Int), l)
  · obtain ⟨l, hr⟩ := hr
    obtain ⟨⟨mle, hen, hcw⟩, g1, g2, g3⟩ := ran_self iq hm (ran_first hr)
    refine ⟨(1, 0, 0), .run l hr mle hen, ?_⟩
    unfold Ply.cnt
    rw [g1, g2, g3, getD_some hen, there_none mle, fW_done hcw (show N ≤ N + 1 by omega), fW_done hcw (Int.le_refl N)]
    refine Prod.ext (by dsimp only) (Prod.ext ?_ ?_)
    · dsimp only; omega
    · dsimp only; omega
  · have hr' : ∀ l, q.S.ran ≠ some ((i : Int), l) := fun l z => hr ⟨l, z⟩
    obtain ⟨o1, o2⟩ := ran_other iq hr'
    have oW : (q.runTo R N (N + 1)).W bs i = q.W bs i := by unfold Ply.W; rw [o1]
    have oE : (q.runTo R N (N + 1)).ends.getD i none = q.ends.getD i none := by rw [List.getD_eq_getElem?_getD, List.getD_eq_getElem?_getD, o2]
    unfold Ply.cnt
    rw [oW, oE, o1]
    cases hm.st with
    | away h1 h2 h3 h4 h5 =>
      refine ⟨(0, 0, 0), .away h1 hr' h4 h2, ?_⟩
      have e1 : (q.W bs i).2 = [] := by unfold Ply.W; rw [h5]; rfl
      have t1 : thereOf none N mo = 0 := by unfold thereOf; show (if N - mo > 0 then N - mo else 0) = 0; rw [if_neg (by omega)]
      have t2 : thereOf none (N + 1) mo = 0 := by unfold thereOf; show (if N + 1 - mo > 0 then N + 1 - mo else 0) = 0; rw [if_neg (by omega)]
      rw [e1, getD_some h2, t1, t2]
      show (_, _, (0 : Int)) = _
      simp [fW]
    | ready c h1 h2 h3 h4 h5 =>
      refine ⟨(0, 1, 0), .ready c h1 h2 hr' h4 h3, ?_⟩
      rw [getD_some h3, there_none h4, there_none (show mo ≤ N + 1 by omega), fW_done h5 (show N ≤ N + 1 by omega), fW_done h5 (Int.le_refl N)]
      refine Prod.ext (by dsimp only; omega) (Prod.ext ?_ ?_)
      · dsimp only; omega
      · dsimp only; omega
    | waits c ini e w h1 h2 h3 h4 h5 h6 h7 h8 =>
      refine ⟨(0, 0, 1), .wait c h1 h2 hr' h4 h3, ?_⟩
      have he := (hm.es (e, w) (by rw [h5]; exact List.mem_append_right _ List.mem_cons_self)).1
      dsimp only at he
      rw [getD_some h3, there_none h4, there_none (show mo ≤ N + 1 by omega), h5, fW_snoc, fW_snoc, fW_done h8 (show N ≤ N + 1 by omega), fW_done h8 (Int.le_refl N)]
      dsimp only
      have a1 : (if N - e < w then N - e else w) = N - e := if_pos (by omega)
      have a2 : (if N + 1 - e < w then N + 1 - e else w) = N + 1 - e := by split <;> omega
      rw [a1, a2]
      refine Prod.ext (by dsimp only; omega) (Prod.ext ?_ ?_)
      · dsimp only; omega
      · dsimp only; omega
    | gone E h1 h2 h3 h4 h5 h6 h7 =>
      refine ⟨(0, 0, 0), .gone E h1 hr' h2 h4 h5, ?_⟩
      have t1 : ∀ U, thereOf (some E) U mo = E - mo := fun U => by unfold thereOf; show (if E - mo > 0 then E - mo else 0) = _; rw [if_pos (by omega)]
      rw [getD_some h2, t1, t1, fW_done h7 (show N ≤ N + 1 by omega), fW_done h7 (Int.le_refl N)]
      refine Prod.ext (by dsimp only; omega) (Prod.ext ?_ ?_)
      · dsimp only; omega
      · dsimp only; omega
theorem Gain.pos {g : Int × Int × Int} (h : Gain q N mo i g) : 0 ≤ g.1 ∧ 0 ≤ g.2.1 ∧ 0 ≤ g.2.2 := by
  cases h <;> decide
theorem cnt_begin {ts : List (Int × List Int)} (hi : ts[i]? = some (mo, bs)) (m0 : 0 ≤ mo) : (Ply.begin S ts).cnt bs mo 0 i = (0, 0, 0) := by
  have he : (Ply.begin S ts).ends[i]? = some none := by
    show (ts.map fun _ => (none : Option Int))[i]? = some none
    rw [List.getElem?_map, hi]; rfl
  unfold Ply.cnt
  rw [getD_some he]
  have t1 : thereOf none 0 mo = 0 := by unfold thereOf; show (if 0 - mo > 0 then 0 - mo else 0) = 0; rw [if_neg (by omega)]
  rw [t1]
  rfl
/-- counts are no less than none -/
theorem cnt_pos {ts : List (Int × List Int)} {j : Nat} (iv : PInv R n (Ply.begin S ts) 0) (ok : R.Ok) (hc : S.cards = []) (tok : TasksOk ts) (hi : ts[i]? = some (mo, bs)) :
    0 ≤ (((Ply.begin S ts).ticks R j).cnt bs mo j i).1 ∧ 0 ≤ (((Ply.begin S ts).ticks R j).cnt bs mo j i).2.1 ∧ 0 ≤ (((Ply.begin S ts).ticks R j).cnt bs mo j i).2.2 := by
  induction j with
  | zero =>
    have := cnt_begin (S := S) hi (tok.2 _ (List.mem_of_getElem? hi)).1
    show 0 ≤ ((Ply.begin S ts).cnt bs mo 0 i).1 ∧ 0 ≤ ((Ply.begin S ts).cnt bs mo 0 i).2.1 ∧ 0 ≤ ((Ply.begin S ts).cnt bs mo 0 i).2.2
    rw [this]
    decide
  | succ j ih =>
    obtain ⟨g, g1, g2⟩ := (CI.ticks (j := j) iv ok (CI.begin hc tok hi)).gain (iv.ticks ok j).1 ok
    obtain ⟨p1, p2, p3⟩ := g1.pos
    rw [show ((j + 1 : Nat) : Int) = (j : Int) + 1 by omega]
    show 0 ≤ ((((Ply.begin S ts).ticks R j).tick R j).cnt bs mo (j + 1) i).1 ∧ 0 ≤ ((((Ply.begin S ts).ticks R j).tick R j).cnt bs mo (j + 1) i).2.1 ∧ 0 ≤ ((((Ply.begin S ts).ticks R j).tick R j).cnt bs mo (j + 1) i).2.2
    rw [g2]
    dsimp only
    omega
end
end Qn

/-! M18: no moment is lost. -/
namespace Qn
open PySem L2
section
variable {R : Rul} {P q : Ply} {n i j k : Nat} {N mo m U E : Int} {bs : List Int} {S : LSt} {g : Int × Int × Int} {fs : List Run4} {t v : Int}
theorem CI.ends (iv : PInv R n P N) (ok : R.Ok) (h : CI bs mo P N i) : (∀ E, P.ends[i]? = some (some E) → (P.tick R N).ends[i]? = some (some E)) ∧
    (P.ends[i]? = some none → (P.tick R N).ends[i]? = some none ∨ (P.tick R N).ends[i]? = some (some (N + 1))) := by
  have hm := h.mid iv
  have iq := (iv.enter ok).1.boost ok
  have htk : P.tick R N = ((P.enter R N).boost R).runTo R N (N + 1) := rfl
  have he : P.ends = ((P.enter R N).boost R).ends := rfl
  have it := (iv.tick ok).1
  rw [htk, he] at *
  generalize (P.enter R N).boost R = q at hm iq it ⊢
  by_cases hr : ∃ l, q.S.ran = some ((i : Int), l)
  · obtain ⟨l, hr⟩ := hr
    obtain ⟨⟨mle, hen, hcw⟩, g1, g2, g3⟩ := ran_self iq hm (ran_first hr)
    refine ⟨fun E z => (by rw [hen] at z; cases Option.some.inj z), fun _ => ?_⟩
    have hi : i < (q.runTo R N (N + 1)).ends.length := by
      rw [it.ne, ← iq.ne]
      exact (List.getElem?_eq_some_iff.mp hen).1
    have ho : (q.runTo R N (N + 1)).ends[i]? = some (q.runTo R N (N + 1)).ends[i] := List.getElem?_eq_getElem hi
    generalize (q.runTo R N (N + 1)).ends[i] = o at ho
    rw [getD_some ho] at g3
    cases o with
    | none => exact .inl ho
    | some E =>
      refine .inr ?_
      unfold thereOf at g3
      have g4 : (if E - mo > 0 then E - mo else 0) = N + 1 - mo := g3
      have : E = N + 1 := by split at g4 <;> omega
      rw [ho, this]
  · have hr' : ∀ l, q.S.ran ≠ some ((i : Int), l) := fun l z => hr ⟨l, z⟩
    obtain ⟨o1, o2⟩ := ran_other iq hr'
    exact ⟨fun E z => o2.trans z, fun z => .inl (o2.trans z)⟩
theorem ends_later (iv : PInv R n P 0) (ok : R.Ok) (h : CI bs mo P 0 i) (j k : Nat) : (∀ E, (P.ticks R j).ends[i]? = some (some E) → (P.ticks R (j + k)).ends[i]? = some (some E)) ∧
    ((P.ticks R j).ends[i]? = some none → (P.ticks R (j + k)).ends[i]? = some none ∨ ∃ E : Int, (j : Int) < E ∧ (P.ticks R (j + k)).ends[i]? = some (some E)) := by
  induction k with
  | zero => exact ⟨fun E z => z, fun z => .inl z⟩
  | succ k ih =>
    obtain ⟨s1, s2⟩ := (CI.ticks (j := j + k) iv ok h).ends (iv.ticks ok (j + k)).1 ok
    refine ⟨fun E z => s1 E (ih.1 E z), fun z => ?_⟩
    rcases ih.2 z with y | ⟨E, y1, y2⟩
    · rcases s2 y with y | y
      · exact .inl y
      · exact .inr ⟨((j + k : Nat) : Int) + 1, by omega, y⟩
    · exact .inr ⟨E, y1, s1 E y2⟩
def thereB (mo N : Int) (o : Option Int) : Bool := decide (mo ≤ N) && (match o with | none => true | some E => decide (N < E))
theorem Gain.there {o : Option Int} (h : Gain q N mo i g) (h1 : ∀ E, q.ends[i]? = some (some E) → o = some E) (h2 : q.ends[i]? = some none → o = none ∨ ∃ E, N < E ∧ o = some E) : g.1 + g.2.1 + g.2.2 = if thereB mo N o = true then 1 else 0 := by
  have yes : mo ≤ N → q.ends[i]? = some none → thereB mo N o = true := fun a b => by
    unfold thereB
    rw [decide_eq_true a, Bool.true_and]
    rcases h2 b with z | ⟨E, z1, z2⟩
    · rw [z]
    · rw [z2]; exact decide_eq_true z1
  cases h with
  | run l a b c => rw [yes b c]; rfl
  | ready c a b d e f => rw [yes e f]; rfl
  | wait c a b d e f => rw [yes e f]; rfl
  | away a b c d =>
    unfold thereB
    rw [decide_eq_false (by omega)]; rfl
  | gone E a b c d e =>
    unfold thereB
    rw [h1 E c]
    have hz : decide (N < E) = false := decide_eq_false (by omega)
    simp [hz]
/-- the task that runs -/
def runner (q : Ply) : Option Int := q.S.ran.map (·.1)
theorem Gain.ran (h : Gain q N mo i g) : g.1 = if runner q = some (i : Int) then 1 else 0 := by
  have no : (∀ l, q.S.ran ≠ some ((i : Int), l)) → ¬ runner q = some (i : Int) := fun h z => by
    unfold runner at z
    obtain ⟨x, e1, e2⟩ := Option.map_eq_some_iff.mp z
    exact h x.2 (by rw [e1, ← e2])
  cases h with
  | run l a b c =>
    have : runner q = some (i : Int) := by unfold runner; rw [a]; rfl
    rw [if_pos this]
  | ready c a b d e f => rw [if_neg (no d)]
  | wait c a b d e f => rw [if_neg (no d)]
  | away a b c d => rw [if_neg (no b)]
  | gone E a b c d e => rw [if_neg (no b)]
theorem Gain.ready_none (h : Gain q N mo i g) (w : Wf n [] q.S) (hn : runner q = none) : g.2.1 = 0 := by
  cases h with
  | run l a b c => rfl
  | ready c a b d e f =>
    have hf : q.S.first = none := by
      cases f : q.S.first with
      | none => rfl
      | some t => unfold runner LSt.ran at hn; rw [f] at hn; cases hn
    have := (look_ready w a).mp b
    rw [first_none.mp hf] at this
    cases this
  | wait c a b d e f => rfl
  | away a b c d => rfl
  | gone E a b c d e => rfl
theorem Gain.ready_one (h : Gain q N mo i g) : 0 ≤ g.2.1 ∧ g.2.1 ≤ 1 := by
  cases h <;> decide
def ranL (o : Option Int) (j : Nat) : List Int := ((List.range j).filter fun i : Nat => decide (o = some (i : Int))).map fun i : Nat => (i : Int)
theorem ranL_succ {o : Option Int} : ranL o (j + 1) = ranL o j ++ List.replicate (if o = some (j : Int) then 1 else 0) (j : Int) := by
  unfold ranL
  rw [List.range_succ, List.filter_append, List.map_append]
  by_cases e : o = some (j : Int)
  · rw [if_pos e, List.filter_cons_of_pos (by simpa using e)]; rfl
  · rw [if_neg e, List.filter_cons_of_neg (by simpa using e)]; rfl
theorem ranL_all {o : Option Int} (h : ∀ t, o = some t → 0 ≤ t ∧ t < n) : ranL o n = o.toList := by
  cases o with
  | none =>
    unfold ranL
    rw [List.filter_eq_nil_iff.mpr fun (i : Nat) _ => by simp]; rfl
  | some t =>
    obtain ⟨t0, t1⟩ := h t rfl
    obtain ⟨k, rfl⟩ := Int.eq_ofNat_of_zero_le t0
    have one : ∀ m, k < m → ranL (some (k : Int)) m = [(k : Int)] := by
      intro m
      induction m with
      | zero => intro h; omega
      | succ m ih =>
        intro hk
        rw [ranL_succ]
        by_cases z : k = m
        · subst z
          have : ranL (some (k : Int)) k = [] := by
            unfold ranL
            rw [List.filter_eq_nil_iff.mpr fun (i : Nat) hi => by
              have := List.mem_range.mp hi
              simp; omega]
            rfl
          rw [this, if_pos rfl]; rfl
        · rw [ih (by omega), if_neg (by simp; omega)]; rfl
    exact one n (by omega)
/-! sums -/
def tot (fs : List Run4) : Int := (fs.map fun x => x.2.1 - x.1).sum
theorem tot_snoc {x : Run4} : tot (fs ++ [x]) = tot fs + (x.2.1 - x.1) := by
  unfold tot
  rw [List.map_append, List.sum_append]
  show _ + ((x.2.1 - x.1) + 0) = _
  omega
theorem tot_join {l : Int} : tot (joinF fs N (N + 1) t l) = tot fs + 1 := by
  have app : tot (fs ++ [(N, N + 1, t, l)]) = tot fs + 1 := by rw [tot_snoc]; dsimp only; omega
  rcases List.eq_nil_or_concat fs with e | ⟨ys, x, e⟩
  · subst e; exact app
  · rw [List.concat_eq_append] at e
    subst e
    rw [runsOf_other.joinF_snoc']
    split
    · rename_i z
      rw [tot_snoc, tot_snoc, z]; dsimp only; omega
    · exact app
theorem tot_ticks (h : P.found = []) (m : Nat) : tot (P.ticks R m).found = ((List.range m).filter fun j => (P.hist R j).isSome).length := by
  induction m with
  | zero =>
    show tot P.found = 0
    rw [h]; rfl
  | succ m ih =>
    rw [List.range_succ, List.filter_append, List.length_append]
    show tot ((P.ticks R m).tick R m).found = _
    rw [found_tick]
    have hh : P.hist R m = ((P.ticks R m).ranAt R m).map fun x => (x.1, (x.2 : Int)) := rfl
    cases e : (P.ticks R m).ranAt R m with
    | none =>
      rw [e] at hh
      dsimp only
      rw [ih, List.filter_cons_of_neg (by rw [hh]; simp)]
      simp
    | some tl =>
      rw [e] at hh
      dsimp only
      rw [tot_join, ih, List.filter_cons_of_pos (by rw [hh]; rfl)]
      simp
theorem sum_one : ((List.range n).map fun i : Nat => if t = (i : Int) then v else 0).sum = if 0 ≤ t ∧ t < n then v else 0 := by
  induction n with
  | zero => rw [if_neg (by omega)]; rfl
  | succ n ih =>
    rw [List.range_succ, List.map_append, List.sum_append, ih]
    show _ + ((if t = (n : Int) then v else 0) + 0) = _
    by_cases z : t = (n : Int)
    · rw [if_pos z, if_neg (by omega), if_pos (by omega)]; omega
    · rw [if_neg z]
      by_cases y : 0 ≤ t ∧ t < n
      · rw [if_pos y, if_pos (by omega)]; omega
      · rw [if_neg y, if_neg (by omega)]; omega
theorem sum_add {f h : Nat → Int} : ∀ {l : List Nat}, (l.map fun i => f i + h i).sum = (l.map f).sum + (l.map h).sum
  | [] => rfl
  | i :: r => by
    rw [List.map_cons, List.map_cons, List.map_cons, List.sum_cons, List.sum_cons, List.sum_cons, sum_add (l := r)]
    omega
theorem tot_tasks (h : ∀ x ∈ fs, 0 ≤ x.2.2.1 ∧ x.2.2.1 < n) : ((List.range n).map fun i : Nat => ranOf (runsOf fs i)).sum = tot fs := by
  induction fs with
  | nil =>
    have : ∀ l : List Nat, (l.map fun i : Nat => ranOf (runsOf [] i)).sum = 0 := by
      intro l
      induction l with
      | nil => rfl
      | cons i r ih => rw [List.map_cons, List.sum_cons, ih]; rfl
    exact this _
  | cons x r ih =>
    have e1 : ∀ i : Nat, ranOf (runsOf (x :: r) i) = (if x.2.2.1 = (i : Int) then x.2.1 - x.1 else 0) + ranOf (runsOf r i) := fun i => by
      unfold runsOf ranOf
      by_cases z : x.2.2.1 = (i : Int)
      · rw [if_pos z, List.filterMap_cons_some (by rw [if_pos z]), List.map_cons, List.sum_cons]
      · rw [if_neg z, List.filterMap_cons_none (by rw [if_neg z])]; omega
    rw [List.map_congr_left fun i _ => e1 i, sum_add, sum_one, if_pos (h x List.mem_cons_self), ih fun y hy => h y (List.mem_cons_of_mem _ hy)]
    unfold tot
    rw [List.map_cons, List.sum_cons]
end
end Qn

/-! M19: runs cut off at a moment; runs as long as they can be; a task's bursts and what it ran. -/
namespace Qn
open PySem L2
/-- runs ahead of a moment -/
def cutF (n : Int) (fs : List Run4) : List Run4 := fs.filterMap fun x => if x.1 < n then some (x.1, (if n < x.2.1 then n else x.2.1), x.2.2) else none
/-- no two runs in a row are one -/
def FMax (fs : List Run4) : Prop := ∀ (i : Nat) (x y : Run4), fs[i]? = some x → fs[i + 1]? = some y → ¬ x.2 = (y.1, y.2.2)
section
variable {R : Rul} {P q : Ply} {n i j k : Nat} {N mo m U E : Int} {bs : List Int} {S : LSt} {fs ys : List Run4} {t l : Int} {x y : Run4}
theorem cutF_snoc : cutF N (fs ++ [x]) = cutF N fs ++ (if x.1 < N then [(x.1, (if N < x.2.1 then N else x.2.1), x.2.2)] else []) := by
  unfold cutF
  rw [List.filterMap_append]
  congr 1
  by_cases h : x.1 < N
  · rw [if_pos h]; simp [h]
  · rw [if_neg h]; simp [h]
theorem cutF_all (h : FOk fs n) : cutF n fs = fs := by
  unfold cutF
  have gen : ∀ l : List Run4, (∀ x ∈ l, x ∈ fs) → l.filterMap (fun x => if x.1 < (n : Int) then some (x.1, (if (n : Int) < x.2.1 then (n : Int) else x.2.1), x.2.2) else none) = l := by
    intro l
    induction l with
    | nil => intro _; rfl
    | cons x r ih =>
      intro hm
      have hx := h x (hm x List.mem_cons_self)
      rw [List.filterMap_cons_some (b := x) (by rw [if_pos (by omega), if_neg (by omega)]), ih fun z hz => hm z (List.mem_cons_of_mem _ hz)]
  exact gen fs fun _ h => h
theorem cutF_join (hn : N ≤ m) : cutF N (joinF fs m (m + 1) t l) = cutF N fs := by
  have app : cutF N (fs ++ [(m, m + 1, t, l)]) = cutF N fs := by
    rw [cutF_snoc, if_neg (by dsimp only; omega), List.append_nil]
  rcases List.eq_nil_or_concat fs with e | ⟨ys, x, e⟩
  · subst e; exact app
  · rw [List.concat_eq_append] at e
    subst e
    rw [runsOf_other.joinF_snoc']
    split
    · rename_i z
      rw [cutF_snoc, cutF_snoc, z]
      dsimp only
      have : (if N < m + 1 then N else m + 1) = (if N < m then N else m) := by split <;> split <;> omega
      rw [this]
    · exact app
theorem cut_ticks (h : P.found = []) (k : Nat) : cutF n (P.ticks R (n + k)).found = (P.ticks R n).found := by
  induction k with
  | zero => exact cutF_all (FOk.ticks h n)
  | succ k ih =>
    show cutF n ((P.ticks R (n + k)).tick R (n + k : Nat)).found = _
    rw [found_tick]
    cases (P.ticks R (n + k)).ranAt R (n + k : Nat) with
    | none => exact ih
    | some tl => exact (cutF_join (by omega)).trans ih
theorem FMax.snoc (h : FMax fs) (hy : ∀ x, fs.getLast? = some x → ¬ x.2 = (y.1, y.2.2)) : FMax (fs ++ [y]) := fun i a b e1 e2 => by
  by_cases z : i + 1 < fs.length
  · rw [List.getElem?_append_left (by omega)] at e1
    rw [List.getElem?_append_left z] at e2
    exact h i a b e1 e2
  · have h2 := (List.getElem?_eq_some_iff.mp e2).1
    simp only [List.length_append, List.length_cons, List.length_nil] at h2
    have hi : i + 1 = fs.length := by omega
    rw [List.getElem?_append_left (by omega)] at e1
    rw [hi, List.getElem?_concat_length] at e2
    cases Option.some.inj e2
    refine hy a ?_
    rw [List.getLast?_eq_getElem?, ← e1]
    congr 1
    omega
theorem FMax.init (h : FMax (fs ++ [y])) : FMax fs ∧ ∀ x, fs.getLast? = some x → ¬ x.2 = (y.1, y.2.2) := by
  refine ⟨fun i a b e1 e2 => h i a b ?_ ?_, fun x hx => ?_⟩
  · rw [List.getElem?_append_left (List.getElem?_eq_some_iff.mp e1).1]; exact e1
  · rw [List.getElem?_append_left (List.getElem?_eq_some_iff.mp e2).1]; exact e2
  · rw [List.getLast?_eq_getElem?] at hx
    have hl := (List.getElem?_eq_some_iff.mp hx).1
    refine h (fs.length - 1) x y ?_ ?_
    · rw [List.getElem?_append_left hl]; exact hx
    · rw [show fs.length - 1 + 1 = fs.length by omega, List.getElem?_concat_length]
theorem FMax.join (h : FMax fs) : FMax (joinF fs N m t l) := by
  rcases List.eq_nil_or_concat fs with e | ⟨ys, x, e⟩
  · subst e
    exact h.snoc fun x hx => by cases hx
  · rw [List.concat_eq_append] at e
    subst e
    rw [runsOf_other.joinF_snoc']
    split
    · rename_i z
      obtain ⟨h1, h2⟩ := h.init
      refine h1.snoc fun a ha => ?_
      have := h2 a ha
      rw [z] at this
      exact this
    · rename_i z
      refine h.snoc fun a ha => ?_
      rw [List.getLast?_concat] at ha
      cases Option.some.inj ha
      exact z
theorem FMax.ticks (h : P.found = []) (n : Nat) : FMax (P.ticks R n).found := by
  induction n with
  | zero =>
    show FMax P.found
    rw [h]
    exact fun i a b e1 _ => by cases e1
  | succ n ih =>
    show FMax ((P.ticks R n).tick R n).found
    rw [found_tick]
    cases (P.ticks R n).ranAt R n with
    | none => exact ih
    | some tl => exact ih.join
theorem odds_pos : ∀ {xs : List Int}, xs.length % 2 = 1 → (∀ x ∈ xs, 1 ≤ x) → 1 ≤ odds xs
  | [], h, _ => by simp at h
  | [x], _, h => h x List.mem_cons_self
  | x :: w :: tl, h, hx => by
    have h1 := hx x List.mem_cons_self
    have := odds_pos (xs := tl) (by simp only [List.length_cons] at h; omega) fun z hz => hx z (List.mem_cons_of_mem _ (List.mem_cons_of_mem _ hz))
    show 1 ≤ x + odds tl
    omega
/-- a task's bursts and what it ran -/
theorem CI.whole (iv : PInv R n P N) (h : CI bs mo P N i) : ranOf (runsOf P.found i) ≤ odds bs ∧
    ((∃ E, P.ends[i]? = some (some E) ∧ mo < E ∧ E ≤ N ∧ ranOf (runsOf P.found i) = odds bs ∧ ∀ U, N ≤ U → fW (P.W bs i).2 U = evens bs) ∨
     (P.ends[i]? = some none ∧ ranOf (runsOf P.found i) < odds bs)) := by
  obtain ⟨s1, s2⟩ := wF_sum h.v
  have s1 : ranOf (runsOf P.found i) + odds (P.W bs i).1 = odds bs := s1
  have s2 : ((P.W bs i).2.map (·.2)).sum + evens (P.W bs i).1 = 0 + evens bs := s2
  have lo := (iv.lf i _ h.lf).1
  have stay : ((i : Int) ∈ (P.wk.map Prod.snd).flatten ∨ look P.S.cards i ≠ none) → P.ends[i]? = some none → ranOf (runsOf P.found i) ≤ odds bs ∧
    ((∃ E, P.ends[i]? = some (some E) ∧ mo < E ∧ E ≤ N ∧ ranOf (runsOf P.found i) = odds bs ∧ ∀ U, N ≤ U → fW (P.W bs i).2 U = evens bs) ∨
     (P.ends[i]? = some none ∧ ranOf (runsOf P.found i) < odds bs)) := fun a b => by
    have := odds_pos lo (iv.lp i _ h.lf a)
    exact ⟨by omega, .inr ⟨b, by omega⟩⟩
  cases h.st with
  | away h1 h2 h3 h4 h5 => exact stay (.inl (in_flat h3)) h2
  | ready c h1 h2 h3 h4 h5 => exact stay (.inr (by rw [h1]; exact fun z => by cases z)) h3
  | waits c ini e w h1 h2 h3 h4 h5 h6 h7 h8 => exact stay (.inr (by rw [h1]; exact fun z => by cases z)) h3
  | gone E h1 h2 h3 h4 h5 h6 h7 =>
    rw [h6] at s1 s2
    have e1 : odds [0] = 0 := rfl
    have e2 : evens [0] = 0 := rfl
    refine ⟨by omega, .inl ⟨E, h2, h4, h5, by omega, fun U hU => ?_⟩⟩
    rw [fW_done (N := N) (fun y hy => by have := h7 y hy; omega) hU]
    omega
end
end Qn

/-! M20: a task alone. -/
namespace Qn
open PySem L2
def stepL (R : Rul) (s : Nat × Int) : Nat × Int := if s.2 - 1 = 0 then (min (R.lines.length - 1) (s.1 + 1), R.s (min (R.lines.length - 1) (s.1 + 1))) else (s.1, s.2 - 1)
def runL (R : Rul) : Nat → Nat × Int → List Int × (Nat × Int)
  | 0, s => ([], s)
  | n + 1, s => ((s.1 : Int) :: (runL R n (stepL R s)).1, (runL R n (stepL R s)).2)
def wakeL (R : Rul) (s : Nat × Int) : Nat × Int := (s.1, if R.kept then s.2 else R.s s.1)
/-- the lines at which what is left runs -/
def futL (R : Rul) : List Int → Nat × Int → List Int
  | [], _ => []
  | [x], s => (runL R x.toNat s).1
  | x :: _ :: tl, s => (runL R x.toNat s).1 ++ futL R tl (wakeL R (runL R x.toNat s).2)
def foldP (R : Rul) : List Int → Bool → List Int × (Nat × Int) → List Int × (Nat × Int)
  | [], _, st => st
  | x :: r, true, st => foldP R r false (st.1 ++ (runL R x.toNat st.2).1, (runL R x.toNat st.2).2)
  | _ :: r, false, st => foldP R r true (st.1, wakeL R st.2)
section
variable {R : Rul} {P q : Ply} {n i j k : Nat} {N mo m U E x w : Int} {bs r0 : List Int} {S : LSt} {hl : List Int} {s : Nat × Int} {c : Card}
theorem odds_evens : ∀ bs : List Int, bs.length % 2 = 1 → odds bs + evens bs = bs.sum
  | [], h => by simp at h
  | [x], _ => by show x + 0 = x + 0; rfl
  | x :: w :: tl, h => by
    have ih := odds_evens tl (by simp only [List.length_cons] at h; omega)
    show (x + odds tl) + (w + evens tl) = x + (w + tl.sum)
    omega
theorem evens_pos : ∀ {xs : List Int}, (∀ x ∈ xs, 0 ≤ x) → 0 ≤ evens xs
  | [], _ => Int.le_refl _
  | [_], _ => Int.le_refl _
  | x :: w :: tl, h => by
    have h1 := h w (by simp)
    have h2 := evens_pos (xs := tl) fun z hz => h z (by simp [hz])
    show 0 ≤ w + evens tl
    omega
theorem fW_le {cw : List (Int × Int)} : fW cw U ≤ (cw.map (·.2)).sum := by
  unfold fW
  induction cw with
  | nil => exact Int.le_refl _
  | cons y r ih =>
    rw [List.map_cons, List.map_cons, List.sum_cons, List.sum_cons]
    have : (if U - y.1 < y.2 then U - y.1 else y.2) ≤ y.2 := by split <;> omega
    omega
theorem alone_gain (iv : PInv R 1 P N) (ok : R.Ok) {g : Int × Int × Int} (h : Gain ((P.enter R N).boost R) N mo 0 g) : g.2.1 = 0 := by
  have iq := (iv.enter ok).1.boost ok
  generalize (P.enter R N).boost R = q at h iq
  cases h with
  | run l a b c => rfl
  | ready c a b d e f =>
    exfalso
    cases f0 : q.S.first with
    | none =>
      have := (look_ready iq.wf a).mp b
      rw [first_none.mp f0] at this
      cases this
    | some t =>
      obtain ⟨i, xs, rfl, _, _, _, hi⟩ := iq.runOk t f0
      rw [iq.ne] at hi
      have : i = 0 := by omega
      subst this
      exact d _ (ran_some f0)
  | wait c a b d e f => rfl
  | away a b c d => rfl
  | gone E a b c d e => rfl
theorem alone_cnt (iv : PInv R 1 (Ply.begin S [(mo, bs)]) 0) (ok : R.Ok) (hc : S.cards = []) (tok : TasksOk [(mo, bs)]) (j : Nat) : (((Ply.begin S [(mo, bs)]).ticks R j).cnt bs mo j 0).2.1 = 0 := by
  induction j with
  | zero =>
    have := cnt_begin (S := S) (ts := [(mo, bs)]) (i := 0) (mo := mo) (bs := bs) rfl (tok.2 _ List.mem_cons_self).1
    show ((Ply.begin S [(mo, bs)]).cnt bs mo 0 0).2.1 = 0
    rw [this]
  | succ j ih =>
    obtain ⟨g, g1, g2⟩ := (CI.ticks (j := j) iv ok (CI.begin (i := 0) hc tok rfl)).gain (iv.ticks ok j).1 ok
    have g0 := alone_gain (iv.ticks ok j).1 ok g1
    rw [show ((j + 1 : Nat) : Int) = (j : Int) + 1 by omega]
    show ((((Ply.begin S [(mo, bs)]).ticks R j).tick R j).cnt bs mo (j + 1) 0).2.1 = 0
    rw [g2]
    dsimp only
    omega
/-- when it is gone, what it ran and waited -/
theorem alone_all (ok : R.Ok) (hw : Wf R.lines.length [] S) (hc0 : S.cards = []) (tok : TasksOk [(mo, bs)]) (N : Nat) :
    ((Ply.begin (S) [(mo, bs)]).ticks R N).ends = [if mo + bs.sum ≤ N then some (mo + bs.sum) else none] ∧
    (mo + bs.sum ≤ N → ranOf (runsOf ((Ply.begin (S) [(mo, bs)]).ticks R N).found (0 : Nat)) = odds bs ∧ fW (((Ply.begin (S) [(mo, bs)]).ticks R N).W bs 0).2 N = evens bs) := by
  have iv := PInv.begin (R := R) (S := S) (ts := [(mo, bs)]) hw hc0 tok
  have iv0 := iv
  have hc := alone_cnt (S := S) iv ok hc0 tok N
  have ci : CI bs mo ((Ply.begin (S) [(mo, bs)]).ticks R N) N 0 := CI.ticks iv ok (CI.begin hc0 tok rfl)
  have iN := (iv.ticks ok N).1
  obtain ⟨b1, b2⟩ := (tok.2 _ List.mem_cons_self).2.2
  have hs := odds_evens bs b1
  generalize (Ply.begin (S) [(mo, bs)]).ticks R N = p at hc ci iN ⊢
  have hel : p.ends.length = 1 := iN.ne
  obtain ⟨o, ho⟩ : ∃ o, p.ends = [o] := by
    match p.ends, hel with
    | [o], _ => exact ⟨o, rfl⟩
  have ho0 : p.ends[0]? = some o := by rw [ho]; rfl
  obtain ⟨w1, w2⟩ := ci.whole iN
  have hcn : p.cnt bs mo N 0 = (ranOf (runsOf p.found (0 : Nat)), thereOf o N mo - ranOf (runsOf p.found (0 : Nat)) - fW (p.W bs 0).2 N, fW (p.W bs 0).2 N) := by
    unfold Ply.cnt
    rw [getD_some ho0]
  rw [hcn] at hc
  dsimp only at hc
  rcases w2 with ⟨E, e1, e2, e3, e4, e5⟩ | ⟨e1, e2⟩
  · rw [ho0] at e1
    cases Option.some.inj e1
    have e6 := e5 N (Int.le_refl _)
    have th : thereOf (some E) N mo = E - mo := by unfold thereOf; show (if E - mo > 0 then E - mo else 0) = _; rw [if_pos (by omega)]
    rw [th] at hc
    have hE : mo + bs.sum = E := by omega
    rw [ho, hE, if_pos e3]
    exact ⟨rfl, fun _ => ⟨e4, e6⟩⟩
  · rw [ho0] at e1
    cases Option.some.inj e1
    have th : thereOf none N mo = if (N : Int) - mo > 0 then N - mo else 0 := rfl
    rw [th] at hc
    obtain ⟨_, s2⟩ := wF_sum ci.v
    have s2 : ((p.W bs 0).2.map (·.2)).sum + evens (p.W bs 0).1 = 0 + evens bs := s2
    have := fW_le (cw := (p.W bs 0).2) (U := N)
    have hp := evens_pos fun x hx => ((iN.lf 0 _ ci.lf).2.2 x hx).1
    have hlt : ¬ mo + bs.sum ≤ N := by split at hc <;> omega
    rw [ho, if_neg hlt]
    exact ⟨rfl, fun z => absurd z hlt⟩
/-! its lines -/
theorem foldP_fut : ∀ (bs : List Int) (a : List Int) (s : Nat × Int), (foldP R bs true (a, s)).1 = a ++ futL R bs s
  | [], a, s => (List.append_nil a).symm
  | [x], a, s => rfl
  | x :: w :: tl, a, s => by
    show (foldP R tl true (a ++ (runL R x.toNat s).1, wakeL R (runL R x.toNat s).2)).1 = a ++ ((runL R x.toNat s).1 ++ futL R tl (wakeL R (runL R x.toNat s).2))
    rw [foldP_fut tl, List.append_assoc]
theorem foldP_snoc : ∀ (bs : List Int) (b : Bool) (st : List Int × (Nat × Int)), foldP R (bs ++ [x]) b st = if (decide (bs.length % 2 = 0)) = b then ((foldP R bs b st).1 ++ (runL R x.toNat (foldP R bs b st).2).1, (runL R x.toNat (foldP R bs b st).2).2) else ((foldP R bs b st).1, wakeL R (foldP R bs b st).2)
  | [], true, st => rfl
  | [], false, st => rfl
  | y :: r, true, st => by
    show foldP R (r ++ [x]) false _ = _
    rw [foldP_snoc r false]
    have : (decide (r.length % 2 = 0) = false) ↔ (decide ((y :: r).length % 2 = 0) = true) := by
      simp only [List.length_cons, decide_eq_false_iff_not, decide_eq_true_eq]; omega
    by_cases h : decide (r.length % 2 = 0) = false
    · rw [if_pos h, if_pos (this.mp h)]; rfl
    · rw [if_neg h, if_neg (fun z => h (this.mpr z))]; rfl
  | y :: r, false, st => by
    show foldP R (r ++ [x]) true _ = _
    rw [foldP_snoc r true]
    have : (decide (r.length % 2 = 0) = true) ↔ (decide ((y :: r).length % 2 = 0) = false) := by
      simp only [List.length_cons, decide_eq_false_iff_not, decide_eq_true_eq]; omega
    by_cases h : decide (r.length % 2 = 0) = true
    · rw [if_pos h, if_pos (this.mp h)]; rfl
    · rw [if_neg h, if_neg (fun z => h (this.mpr z))]; rfl
theorem runL_len : ∀ (n : Nat) (s : Nat × Int), (runL R n s).1.length = n
  | 0, _ => rfl
  | n + 1, s => by
    show ((s.1 : Int) :: (runL R n (stepL R s)).1).length = n + 1
    rw [List.length_cons, runL_len n]
theorem runL_succ : ∀ (n : Nat) (s : Nat × Int), runL R (n + 1) s = ((runL R n s).1 ++ [((runL R n s).2.1 : Int)], stepL R (runL R n s).2)
  | 0, s => rfl
  | n + 1, s => by
    have ih := runL_succ n (stepL R s)
    show ((s.1 : Int) :: (runL R (n + 1) (stepL R s)).1, (runL R (n + 1) (stepL R s)).2) = _
    rw [ih]; rfl
theorem fut_run (x1 : 1 ≤ x) : futL R (x :: r0) s = (s.1 : Int) :: (if x - 1 = 0 then (match r0 with | [] => [] | _ :: r => futL R r (wakeL R (stepL R s))) else futL R ((x - 1) :: r0) (stepL R s)) := by
  have e : x.toNat = (x - 1).toNat + 1 := by omega
  by_cases z : x - 1 = 0
  · rw [if_pos z]
    have e0 : (x - 1).toNat = 0 := by omega
    cases r0 with
    | nil =>
      show (runL R x.toNat s).1 = _
      rw [e, e0]; rfl
    | cons w r =>
      show (runL R x.toNat s).1 ++ futL R r (wakeL R (runL R x.toNat s).2) = _
      rw [e, e0]; rfl
  · rw [if_neg z]
    cases r0 with
    | nil =>
      show (runL R x.toNat s).1 = _
      rw [e]; rfl
    | cons w r =>
      show (runL R x.toNat s).1 ++ futL R r (wakeL R (runL R x.toNat s).2) = _
      rw [e]; rfl
theorem chg_step (hl : c.line < R.lines.length) : ((chg R R.lines.length c 1).line, (chg R R.lines.length c 1).sh) = stepL R (c.line, c.sh) := by
  unfold chg mov stepL
  dsimp only
  by_cases h1 : c.sh - 1 = 0
  · rw [if_pos h1, if_pos h1, if_pos h1]
    by_cases h2 : c.line < R.lines.length - 1 ∨ c.q - 1 = 0
    · rw [if_pos h2]; rfl
    · rw [if_neg h2]
      have : min (R.lines.length - 1) (c.line + 1) = c.line := by omega
      rw [this]; rfl
  · rw [if_neg h1, if_neg h1, if_neg h1]
    by_cases h2 : c.q - 1 = 0
    · rw [if_pos h2]; rfl
    · rw [if_neg h2]; rfl
/-- its lines so far, and those to come -/
def LI (R : Rul) (bs : List Int) (P : Ply) (hl : List Int) : Prop := ∃ (xs : List Int) (s : Nat × Int), P.left[0]? = some xs ∧ hl ++ futL R xs s = futL R bs (0, R.s 0) ∧
  (∀ c, look P.S.cards 0 = some c → s = if c.rdy then (c.line, c.sh) else wakeL R (c.line, c.sh)) ∧ (look P.S.cards 0 = none → P.ends[0]? = some none → s = (0, R.s 0))
theorem LI.enter (h : LI R bs P hl) (iv : PInv R 1 P N) (ci : CI bs mo P N 0) (hb : R.boost = none) : LI R bs ((P.enter R N).boost R) hl := by
  have eb : (P.enter R N).boost R = P.enter R N := by
    unfold Ply.boost LSt.boostNow LSt.due
    rw [hb]; rfl
  rw [eb]
  obtain ⟨xs, s, h1, h2, h3, h4⟩ := h
  have sp := sortI_perm (getW P.wk N)
  by_cases hin : (0 : Int) ∈ getW P.wk N
  · have nd := (iv.enOk N).nd
    have h0 : ∀ t ∈ getW P.wk N, t = 0 := fun t ht => by
      have := iv.wt t (in_flat ht)
      omega
    have hg : getW P.wk N = [0] := by
      match hq : getW P.wk N, hin, nd, h0 with
      | [a], hin, _, h0 => rw [h0 a (by simp)]
      | a :: b :: r, _, nd, h0 =>
        have e1 := h0 a (by simp)
        have e2 := h0 b (by simp)
        rw [e1, e2] at nd
        simp at nd
    have hs : sortI (getW P.wk N) = [0] := by
      rw [hg]
      exact List.perm_singleton.mp (sortI_perm [0])
    have hS : (P.enter R N).S = Ply.enter1 R P.S 0 := by
      unfold Ply.enter
      rw [hs]; rfl
    refine ⟨xs, s, h1, h2, ?_, ?_⟩
    · intro c hc
      rw [hS] at hc
      unfold Ply.enter1 at hc
      split at hc
      · rename_i z
        obtain ⟨c0, e⟩ := Option.isSome_iff_exists.mp z
        rw [look_wake e, if_pos rfl] at hc
        have hr := (iv.wt 0 (in_flat hin)).2.2 c0 e
        have hs := h3 c0 e
        rw [hr] at hs
        rw [hs, ← Option.some.inj hc]
        rfl
      · rename_i z
        have z : look P.S.cards 0 = none := by simpa using z
        have he : P.ends[0]? = some none := by
          cases ci.st with
          | away h1 h2 h3 h4 h5 => exact h2
          | ready c a1 a2 a3 a4 a5 => exact a3
          | waits c ini e w a1 a2 a3 a4 a5 a6 a7 a8 => exact a3
          | gone E a1 a2 a3 a4 a5 a6 a7 => exact absurd (in_flat hin) a3
        rw [look_come z, if_pos rfl] at hc
        rw [h4 z he, ← Option.some.inj hc]
        rfl
    · intro hc
      rw [hS] at hc
      unfold Ply.enter1 at hc
      split at hc
      · rename_i z
        obtain ⟨c0, e⟩ := Option.isSome_iff_exists.mp z
        rw [look_wake e, if_pos rfl] at hc
        cases hc
      · rename_i z
        have z : look P.S.cards 0 = none := by simpa using z
        rw [look_come z, if_pos rfl] at hc
        cases hc
  · have hst : look (P.enter R N).S.cards 0 = look P.S.cards 0 := look_ent (fun y => hin (sp.mem_iff.mp y))
    exact ⟨xs, s, h1, h2, fun c hc => h3 c (hst.symm.trans hc), fun hc => h4 (hst.symm.trans hc)⟩
theorem LI.run (h : LI R bs q hl) (iv : PInv R 1 q N) : LI R bs (q.runTo R N (N + 1)) (hl ++ (match q.S.ran with | none => [] | some (_, l) => [(l : Int)])) := by
  obtain ⟨xs, s, h1, h2, h3, h4⟩ := h
  cases f : q.S.first with
  | none =>
    rw [runTo_none f, ran_none f]
    have e1 : ∀ c, look (q.S.run R 1).cards 0 = c → look q.S.cards 0 = c := fun c hc => by rw [run_none f] at hc; exact hc
    exact ⟨xs, s, h1, by dsimp only; rw [List.append_nil]; exact h2, fun c hc => h3 c (e1 _ hc), fun hc => h4 (e1 _ hc)⟩
  | some t =>
    obtain ⟨k, xs', rfl, hx, ho, _, hk⟩ := iv.runOk t f
    have k0 : k = 0 := by rw [iv.ne] at hk; omega
    subst k0
    rw [h1] at hx
    cases Option.some.inj hx
    obtain ⟨c, c1, c2, _, _, _, c3, _⟩ := run_some (R := R) (m := 1) iv.wf f
    have c1 : look q.S.cards 0 = some c := c1
    have hxl := iv.lp 0 xs h1 (.inr (by show look q.S.cards 0 ≠ none; rw [c1]; exact fun z => by cases z))
    have hs := h3 c c1
    rw [c2] at hs
    have hs : s = (c.line, c.sh) := hs
    have hln := (iv.wf.key 0 c c1).2.2.1
    have hcs := chg_step (R := R) (c := c) hln
    rw [ran_some f]
    dsimp only
    have hcd : q.S.card ((0 : Nat) : Int) = c := LSt.card_of c1
    rw [hcd]
    cases xs with
    | nil => simp at ho
    | cons x r0 =>
    have x1 := hxl x List.mem_cons_self
    rw [fut_run x1] at h2
    have hil : 0 < q.left.length := (List.getElem?_eq_some_iff.mp h1).1
    have hc' : look (q.S.run R 1).cards 0 = some (chg R R.lines.length c 1) := by rw [c3 0]; exact if_pos rfl
    have hsl : (s.1 : Int) = (c.line : Int) := by rw [hs]
    by_cases z : x - 1 = 0
    · rw [if_pos z] at h2
      cases r0 with
      | nil =>
        rw [runTo_end f h1 z]
        refine ⟨[x - 1], s, by show (q.left.set 0 [x - 1])[0]? = _; rw [List.getElem?_set_self hil], ?_, fun d hd => ?_, fun _ hd => ?_⟩
        · have : futL R [x - 1] s = [] := by show (runL R (x - 1).toNat s).1 = []; rw [z]; rfl
          rw [this, List.append_nil, ← h2, ← hsl]
        · have hd : look ((q.S.run R 1).go (0 : Nat)).cards 0 = some d := hd
          rw [look_go] at hd
          rw [if_pos (show (0 : Int) = ((0 : Nat) : Int) from rfl)] at hd
          cases hd
        · have hd : (q.ends.set 0 (some (N + 1)))[0]? = some none := hd
          rw [List.getElem?_set_self hk] at hd
          cases Option.some.inj hd
      | cons w r =>
        rw [runTo_wait f h1 z]
        refine ⟨r, wakeL R (stepL R s), by show (q.left.set 0 r)[0]? = _; rw [List.getElem?_set_self hil], ?_, fun d hd => ?_, fun hd => ?_⟩
        · rw [← h2, ← hsl, List.append_assoc]; rfl
        · have hd : look ((q.S.run R 1).wait (0 : Nat)).cards 0 = some d := hd
          rw [look_wait, if_pos (show (0 : Int) = ((0 : Nat) : Int) from rfl), hc'] at hd
          rw [← Option.some.inj hd, hs, ← hcs]
          rfl
        · have hd : look ((q.S.run R 1).wait (0 : Nat)).cards 0 = none := hd
          rw [look_wait, if_pos (show (0 : Int) = ((0 : Nat) : Int) from rfl), hc'] at hd
          cases hd
    · rw [if_neg z] at h2
      rw [runTo_more f h1 z]
      refine ⟨(x - 1) :: r0, stepL R s, by show (q.left.set 0 ((x - 1) :: r0))[0]? = _; rw [List.getElem?_set_self hil], ?_, fun d hd => ?_, fun hd => ?_⟩
      · rw [← h2, ← hsl, List.append_assoc]; rfl
      · have hd : look (q.S.run R 1).cards 0 = some d := hd
        rw [hc'] at hd
        rw [← Option.some.inj hd, hs, ← hcs]
        have : (chg R R.lines.length c 1).rdy = true := c2
        rw [this]; rfl
      · have hd : look (q.S.run R 1).cards 0 = none := hd
        rw [hc'] at hd
        cases hd
def linesL (R : Rul) (P : Ply) (N : Nat) : List Int := (List.range N).filterMap fun j => (P.hist R j).map (·.2)
theorem LI.ticks (ok : R.Ok) (hw : Wf R.lines.length [] S) (hc0 : S.cards = []) (hb : R.boost = none) (tok : TasksOk [(mo, bs)]) (N : Nat) : LI R bs ((Ply.begin (S) [(mo, bs)]).ticks R N) (linesL R (Ply.begin (S) [(mo, bs)]) N) := by
  have iv := PInv.begin (R := R) (S := S) (ts := [(mo, bs)]) hw hc0 tok
  induction N with
  | zero => exact ⟨bs, (0, R.s 0), rfl, rfl, fun c hc => by (have hc : look S.cards 0 = some c := hc; rw [hc0] at hc; cases hc), fun _ _ => rfl⟩
  | succ N ih =>
    have iN := (iv.ticks ok N).1
    have ci : CI bs mo ((Ply.begin (S) [(mo, bs)]).ticks R N) N 0 := CI.ticks iv ok (CI.begin hc0 tok rfl)
    have h1 := ih.enter iN ci hb
    have h2 := h1.run ((iN.enter ok).1.boost ok)
    have e : linesL R (Ply.begin (S) [(mo, bs)]) (N + 1) = linesL R (Ply.begin (S) [(mo, bs)]) N ++ (match ((((Ply.begin (S) [(mo, bs)]).ticks R N).enter R N).boost R).S.ran with | none => [] | some (_, l) => [(l : Int)]) := by
      unfold linesL
      rw [List.range_succ, List.filterMap_append]
      congr 1
      have hh : Ply.hist R (Ply.begin (S) [(mo, bs)]) N = (((((Ply.begin (S) [(mo, bs)]).ticks R N).enter R N).boost R).S.ran).map fun x => (x.1, (x.2 : Int)) := rfl
      cases er : ((((Ply.begin (S) [(mo, bs)]).ticks R N).enter R N).boost R).S.ran with
      | none => rw [er] at hh; simp [hh]
      | some tl => rw [er] at hh; simp [hh]
    rw [e]
    exact h2
/-- the lines so far are the first of those it runs at; all, if it is gone -/
theorem alone_lines (ok : R.Ok) (hw : Wf R.lines.length [] S) (hc0 : S.cards = []) (hb : R.boost = none) (tok : TasksOk [(mo, bs)]) (N : Nat) : linesL R (Ply.begin (S) [(mo, bs)]) N = (futL R bs (0, R.s 0)).take (linesL R (Ply.begin (S) [(mo, bs)]) N).length ∧
    (mo + bs.sum ≤ N → (linesL R (Ply.begin (S) [(mo, bs)]) N).length = (futL R bs (0, R.s 0)).length) := by
  have iv := PInv.begin (R := R) (S := S) (ts := [(mo, bs)]) hw hc0 tok
  obtain ⟨xs, s, h1, h2, _, _⟩ := LI.ticks ok hw hc0 hb tok N
  rw [← h2]
  refine ⟨by rw [List.take_left], fun hN => ?_⟩
  have ci : CI bs mo ((Ply.begin (S) [(mo, bs)]).ticks R N) N 0 := CI.ticks iv ok (CI.begin hc0 tok rfl)
  obtain ⟨e1, e2⟩ := alone_all ok hw hc0 tok N
  rw [if_pos hN] at e1
  have hx : xs = [0] := by
    rw [ci.lf] at h1
    cases ci.st with
    | away _ a2 _ _ _ => rw [e1] at a2; cases Option.some.inj a2
    | ready _ _ _ a3 _ _ => rw [e1] at a3; cases Option.some.inj a3
    | waits _ _ _ _ _ _ a3 _ _ _ _ _ => rw [e1] at a3; cases Option.some.inj a3
    | gone _ _ _ _ _ _ a6 _ => rw [← Option.some.inj h1]; exact a6
  rw [hx]
  have : futL R [0] s = [] := rfl
  rw [this, List.append_nil]
end
end Qn

/-! M21: a line more behind, that is never reached. -/
namespace Qn
open PySem L2
/-- a line more behind -/
structure RX (n : Nat) (R R' : Rul) : Prop where
  len : R.lines.length = n
  len' : R'.lines.length = n + 1
  q : ∀ l, l < n → R.q l = R'.q l
  s : ∀ l, l < n → R.s l = R'.s l
  kept : R.kept = R'.kept
  boost : R.boost = R'.boost
structure XS (A B : LSt) : Prop where
  row : ∀ j, A.row j = B.row j
  card : ∀ t, OSim (look A.cards t) (look B.cards t)
  time : A.time = B.time
section
variable {R R' : Rul} {A B S : LSt} {n k : Nat} {t u N : Int} {c d : Card} {j : Nat} {p p' P P' : Ply}
theorem XS.some (s : XS A B) (e : look A.cards t = .some c) : ∃ d, look B.cards t = .some d ∧ CSim c d := by
  have := s.card t
  rw [e] at this
  cases h : look B.cards t with
  | none => rw [h] at this; exact this.elim
  | some d => rw [h] at this; exact ⟨d, rfl, this⟩
theorem XS.none (s : XS A B) : look A.cards t = .none ↔ look B.cards t = .none := by
  have := s.card t
  cases h : look A.cards t <;> cases h2 : look B.cards t <;> simp_all [OSim]
theorem XS.rows (s : XS A B) (w : Wf n [] A) (w' : Wf (n + 1) [] B) : B.rows = A.rows ++ [[]] := by
  have h1 := w.rl
  have h2 := w'.rl
  apply List.ext_getElem
  · simp; omega
  · intro i a b
    have hr := s.row i
    rw [LSt.row_some (S := B) (List.getElem?_eq_getElem a)] at hr
    by_cases z : i < A.rows.length
    · rw [List.getElem_append_left z, ← hr, LSt.row_some (List.getElem?_eq_getElem z)]
    · rw [List.getElem_append_right (by omega)]
      have : A.row i = [] := by
        unfold LSt.row
        rw [List.getD_eq_getElem?_getD, List.getElem?_eq_none (by omega)]; rfl
      rw [this] at hr
      rw [← hr]
      simp
theorem XS.first (s : XS A B) (w : Wf n [] A) (w' : Wf (n + 1) [] B) : A.first = B.first := by
  rw [first_flat w, first_flat w', s.rows w w', List.flatten_append]
  simp
theorem mov_more {m : Int} (h : c.line + 1 < n) : mov (n + 1) c m = mov n c m := by
  unfold mov
  by_cases h1 : c.sh - m = 0
  · rw [if_pos h1, if_pos h1, if_pos (.inl (by omega)), if_pos (.inl (by omega)), show min (n + 1 - 1) (c.line + 1) = min (n - 1) (c.line + 1) by omega]
  · rw [if_neg h1, if_neg h1]
theorem chg_more (s : CSim c d) (r : c.rdy = true) (q : RX n R R') (h : c.line + 1 < n) : CSim (chg R n c 1) (chg R' (n + 1) d 1) := by
  have hm : mov (n + 1) d 1 = mov n c 1 := by
    rw [mov_more (by rw [← s.1]; exact h)]
    exact (s.mov r 1).symm
  have hml : ∀ l, mov n c 1 = some l → l < n := fun l e => (mov_lt (by omega) e).1
  obtain ⟨h1, h2, h3, h4⟩ := s
  have h4 := h4 r
  unfold Qn.chg
  refine ⟨?_, ?_, h3, fun _ => ?_⟩
  · dsimp only; rw [hm, h1]
  · dsimp only
    rw [h2]
    split
    · rw [show min (n + 1 - 1) (d.line + 1) = c.line + 1 by omega, show min (n - 1) (c.line + 1) = c.line + 1 by omega]
      exact q.s _ h
    · rfl
  · dsimp only
    rw [hm, h4]
    cases e : mov n c 1 with
    | none => rfl
    | some l => exact q.q l (hml l e)
theorem XS.run (s : XS A B) (q : RX n R R') (w : Wf n [] A) (w' : Wf (n + 1) [] B) (hl : ∀ t c, A.first = .some t → look A.cards t = .some c → c.line + 1 < n) : XS (A.run R 1) (B.run R' 1) := by
  have hf := s.first w w'
  cases e : A.first with
  | none =>
    have e' : B.first = .none := by rw [← hf]; exact e
    rw [run_none e, run_none e']
    exact ⟨s.row, s.card, by show A.time + 1 = B.time + 1; rw [s.time]⟩
  | some t =>
    have e' : B.first = .some t := by rw [← hf]; exact e
    obtain ⟨c, c1, c2, _, _, _, c3, c4, c5, c6⟩ := run_some (R := R) (m := 1) w e
    obtain ⟨d, d1, d2, _, _, _, d3, d4, d5, d6⟩ := run_some (R := R') (m := 1) w' e'
    obtain ⟨d', h1, h2⟩ := s.some c1
    rw [d1] at h1
    cases Option.some.inj h1
    have h0 := hl t c e c1
    refine ⟨fun j => ?_, fun u => ?_, by rw [c6, d6, s.time]⟩
    · rw [c4 j, d4 j, mov_more (c := d) (by rw [← h2.1]; exact h0), h2.mov c2 1, s.row j]
    · rw [c3 u, d3 u]
      by_cases z : u = t
      · rw [if_pos z, if_pos z]; exact chg_more h2 c2 q h0
      · rw [if_neg z, if_neg z]; exact s.card u
theorem XS.wake (s : XS A B) (q : RX n R R') (w : Wf n [] A) (w' : Wf (n + 1) [] B) (e : look A.cards t = .some c) : XS (A.wake R t) (B.wake R' t) := by
  obtain ⟨d, e', h⟩ := s.some e
  have hln := (w.key t c e).2.2.1
  refine ⟨fun j => ?_, fun u => ?_, by rw [time_wake, time_wake, s.time]⟩
  · rw [row_wake w e, row_wake w' e', h.1, s.row j]
  · rw [look_wake e, look_wake e']
    by_cases z : u = t
    · rw [if_pos z, if_pos z]
      obtain ⟨h1, h2, h3, h4⟩ := h
      refine ⟨h1, ?_, rfl, fun _ => ?_⟩
      · dsimp only; rw [← h1, h2, q.kept, q.s _ hln]
      · dsimp only; rw [← h1, q.q _ hln]
    · rw [if_neg z, if_neg z]; exact s.card u
theorem XS.come (s : XS A B) (q : RX n R R') (w : Wf n [] A) (w' : Wf (n + 1) [] B) (hn : 0 < n) (e : look A.cards t = .none) : XS (A.come R t) (B.come R' t) := by
  have e' := s.none.mp e
  refine ⟨fun j => ?_, fun u => ?_, by rw [time_come, time_come, s.time]⟩
  · rw [row_come (by rw [w.rl]; exact hn), row_come (by rw [w'.rl]; omega), s.row j, s.row 0]
  · rw [look_come e, look_come e']
    by_cases z : u = t
    · rw [if_pos z, if_pos z]
      exact ⟨rfl, q.s 0 hn, rfl, fun _ => q.q 0 hn⟩
    · rw [if_neg z, if_neg z]; exact s.card u
theorem XS.go (s : XS A B) (w : Wf n [] A) (w' : Wf (n + 1) [] B) (e : look A.cards t = .some c) : XS (A.go t) (B.go t) := by
  obtain ⟨d, e', h⟩ := s.some e
  refine ⟨fun j => ?_, fun u => ?_, by rw [time_go, time_go, s.time]⟩
  · rw [row_go w e, row_go w' e', s.row j]
  · rw [look_go, look_go]
    by_cases z : u = t
    · rw [if_pos z, if_pos z]; trivial
    · rw [if_neg z, if_neg z]; exact s.card u
theorem XS.wait (s : XS A B) (w : Wf n [] A) (w' : Wf (n + 1) [] B) (e : look A.cards t = .some c) : XS (A.wait t) (B.wait t) := by
  obtain ⟨d, e', h⟩ := s.some e
  refine ⟨fun j => ?_, fun u => ?_, by rw [time_wait, time_wait, s.time]⟩
  · rw [row_wait w e, row_wait w' e', s.row j]
  · rw [look_wait, look_wait]
    by_cases z : u = t
    · rw [if_pos z, if_pos z, z, e, e']
      exact ⟨h.1, h.2.1, rfl, fun y => absurd (show false = true from y) (by simp)⟩
    · rw [if_neg z, if_neg z]; exact s.card u
theorem XS.later (s : XS A B) (w : Wf n [] A) (w' : Wf (n + 1) [] B) (hn : 0 < n) : A.later = B.later := by
  have h1 := w.rl
  unfold LSt.later
  rw [s.rows w w', List.drop_append_of_le_length (by omega), List.flatten_append]
  simp
theorem XS.boostNow (s : XS A B) (q : RX n R R') (w : Wf n [] A) (w' : Wf (n + 1) [] B) (hn : 0 < n) : XS (A.boostNow R) (B.boostNow R') := by
  have hd : A.due R = B.due R' := by unfold LSt.due; rw [q.boost, s.time]
  have hlt := s.later w w' hn
  unfold LSt.boostNow
  rw [hd]
  split
  · refine ⟨fun j => ?_, fun u => ?_, by rw [time_boosted, time_boosted, s.time]⟩
    · rw [row_boosted (by rw [w.rl]; exact hn), row_boosted (by rw [w'.rl]; omega), s.row 0, hlt]
    · rw [look_boosted, look_boosted]
      have := s.card u
      cases e1 : look A.cards u with
      | none =>
        rw [s.none.mp e1]; trivial
      | some c =>
        obtain ⟨d, e2, h⟩ := s.some e1
        rw [e2]
        refine ⟨rfl, q.s 0 hn, h.2.2.1, fun r => ?_⟩
        show (if u ∈ A.later then R.q 0 else c.q) = (if u ∈ B.later then R'.q 0 else d.q)
        rw [hlt, q.q 0 hn, h.2.2.2 r]
  · exact s
theorem XS.ents (q : RX n R R') (ok : R.Ok) (ok' : R'.Ok) : ∀ {ts : List Int} {A B : LSt}, XS A B → ts.Nodup → (∀ t ∈ ts, 0 ≤ t ∧ t ≤ 19 ∧ ∀ c, look A.cards t = .some c → c.rdy = false) → Wf n [] A → Wf (n + 1) [] B → Bd R A → Bd R' B → XS (ts.foldl (Ply.enter1 R) A) (ts.foldl (Ply.enter1 R') B)
  | [], _, _, s, _, _, _, _, _, _ => s
  | u :: r, A, B, s, nd, h, w, w', b, b' => by
    have hn : 0 < n := by have := ok.one; rw [q.len] at this; exact this
    obtain ⟨n1, n2⟩ := List.nodup_cons.mp nd
    have hB : ∀ t ∈ u :: r, 0 ≤ t ∧ t ≤ 19 ∧ ∀ c, look B.cards t = .some c → c.rdy = false := fun t ht => by
      obtain ⟨a1, a2, a3⟩ := h t ht
      refine ⟨a1, a2, fun d e => ?_⟩
      cases e1 : look A.cards t with
      | none => rw [s.none.mp e1] at e; cases e
      | some c =>
        obtain ⟨d', e2, hh⟩ := s.some e1
        rw [e] at e2
        cases Option.some.inj e2
        rw [← hh.2.2.1]; exact a3 c e1
    have w0 : Wf R.lines.length [] A := by rw [q.len]; exact w
    have w0' : Wf R'.lines.length [] B := by rw [q.len']; exact w'
    obtain ⟨x1, x2⟩ := ent_wf (ts := [u]) (S := A) ok (by simp) (fun t ht => by rw [List.mem_singleton.mp ht]; exact h u List.mem_cons_self) w0 b
    obtain ⟨y1, y2⟩ := ent_wf (ts := [u]) (S := B) ok' (by simp) (fun t ht => by rw [List.mem_singleton.mp ht]; exact hB u List.mem_cons_self) w0' b'
    rw [q.len] at x1
    rw [q.len'] at y1
    rw [List.foldl_cons, List.foldl_cons]
    refine XS.ents q ok ok' (ts := r) ?_ n2 (fun t ht => ?_) x1 y1 x2 y2
    · unfold Ply.enter1
      cases e1 : look A.cards u with
      | none =>
        rw [s.none.mp e1]
        exact s.come q w w' hn e1
      | some c =>
        obtain ⟨d, e2, _⟩ := s.some e1
        rw [e2]
        exact s.wake q w w' e1
    · obtain ⟨a1, a2, a3⟩ := h t (List.mem_cons_of_mem _ ht)
      have ne : t ∉ [u] := fun z => n1 (by rw [← List.mem_singleton.mp z]; exact ht)
      refine ⟨a1, a2, fun c e => a3 c ?_⟩
      have := look_ent (R := R) (S := A) ne
      rw [← this]; exact e
structure PX (p p' : Ply) : Prop where
  xs : XS p.S p'.S
  left : p.left = p'.left
  wk : p.wk = p'.wk
  found : p.found = p'.found
  ends : p.ends = p'.ends
theorem PX.mid (h : PX p p') (iv : PInv R k p N) (iv' : PInv R' k p' N) (ok : R.Ok) (ok' : R'.Ok) (q : RX n R R') : PX ((p.enter R N).boost R) ((p'.enter R' N).boost R') := by
  have hn : 0 < n := by have := ok.one; rw [q.len] at this; exact this
  have w : Wf n [] p.S := by rw [← q.len]; exact iv.wf
  have w' : Wf (n + 1) [] p'.S := by rw [← q.len']; exact iv'.wf
  have sp := sortI_perm (getW p.wk N)
  have eo := iv.enOk N
  have e1 : XS (p.enter R N).S (p'.enter R' N).S := by
    unfold Ply.enter
    dsimp only
    rw [← h.wk]
    exact XS.ents q ok ok' h.xs (sp.nodup_iff.mpr eo.nd) (fun t ht => eo.ok t (sp.mem_iff.mp ht)) w w' iv.bd iv'.bd
  have i1 := (iv.enter ok).1.wf
  have i2 := (iv'.enter ok').1.wf
  rw [q.len] at i1
  rw [q.len'] at i2
  refine ⟨e1.boostNow q i1 i2 hn, h.left, ?_, h.found, h.ends⟩
  show delW p.wk N = delW p'.wk N
  rw [h.wk]
theorem PX.run (h : PX p p') (iv : PInv R k p N) (iv' : PInv R' k p' N) (q : RX n R R') (hl : ∀ t l, p.S.ran = some (t, l) → l + 1 < n) : PX (p.runTo R N (N + 1)) (p'.runTo R' N (N + 1)) := by
  have w : Wf n [] p.S := by rw [← q.len]; exact iv.wf
  have w' : Wf (n + 1) [] p'.S := by rw [← q.len']; exact iv'.wf
  have hf := h.xs.first w w'
  have hl2 : ∀ t c, p.S.first = some t → look p.S.cards t = some c → c.line + 1 < n := fun t c e1 e2 => by
    have := hl t _ (ran_some e1)
    rw [LSt.card_of e2] at this
    exact this
  have xr := h.xs.run q w w' hl2
  cases f : p.S.first with
  | none =>
    rw [runTo_none f, runTo_none (by rw [← hf]; exact f)]
    exact ⟨xr, h.left, h.wk, h.found, h.ends⟩
  | some t =>
    have f' : p'.S.first = some t := by rw [← hf]; exact f
    obtain ⟨i, xs, rfl, hx, ho, _, hk⟩ := iv.runOk t f
    have hx' : p'.left[i]? = some xs := by rw [← h.left]; exact hx
    obtain ⟨c, c1, c2, _, _, _, c3, _⟩ := run_some (R := R) (m := 1) iv.wf f
    obtain ⟨d, d1, dc⟩ := h.xs.some c1
    have hcl : (p.S.card i).line = (p'.S.card i).line := by rw [LSt.card_of c1, LSt.card_of d1, dc.1]
    have hj : joinF p.found N (N + 1) i ((p.S.card i).line : Nat) = joinF p'.found N (N + 1) i ((p'.S.card i).line : Nat) := by rw [h.found, hcl]
    have wr : Wf n [] (p.S.run R 1) := by rw [← q.len]; exact iv.wf.run (by have := w.rl; have := (w.key _ c c1).2.2.1; rw [q.len]; omega)
    have wr' : Wf (n + 1) [] (p'.S.run R' 1) := by rw [← q.len']; exact iv'.wf.run (by rw [q.len']; omega)
    have hc' : look (p.S.run R 1).cards i = some (chg R R.lines.length c 1) := by rw [c3, if_pos rfl]
    cases xs with
    | nil => simp at ho
    | cons x r0 =>
    by_cases z : x - 1 = 0
    · cases r0 with
      | nil =>
        rw [runTo_end f hx z, runTo_end f' hx' z]
        exact ⟨xr.go wr wr' hc', by show p.left.set _ _ = p'.left.set _ _; rw [h.left], h.wk, hj, by show p.ends.set _ _ = p'.ends.set _ _; rw [h.ends]⟩
      | cons w0 r =>
        rw [runTo_wait f hx z, runTo_wait f' hx' z]
        exact ⟨xr.wait wr wr' hc', by show p.left.set _ _ = p'.left.set _ _; rw [h.left], by show addW p.wk _ _ = addW p'.wk _ _; rw [h.wk], hj, h.ends⟩
    · rw [runTo_more f hx z, runTo_more f' hx' z]
      exact ⟨xr, by show p.left.set _ _ = p'.left.set _ _; rw [h.left], h.wk, hj, h.ends⟩
/-- runs stay: their tasks and lines -/
theorem keep_join {fs : List Run4} {b e t l : Int} : (∀ x ∈ fs, ∃ y ∈ joinF fs b e t l, y.2.2 = x.2.2) ∧ ∃ y ∈ joinF fs b e t l, y.2.2 = (t, l) := by
  have app : (∀ x ∈ fs, ∃ y ∈ fs ++ [(b, e, t, l)], y.2.2 = x.2.2) ∧ ∃ y ∈ fs ++ [(b, e, t, l)], y.2.2 = (t, l) := ⟨fun x hx => ⟨x, List.mem_append_left _ hx, rfl⟩, ⟨_, List.mem_append_right _ List.mem_cons_self, rfl⟩⟩
  rcases List.eq_nil_or_concat fs with q | ⟨ys, x, q⟩
  · subst q; exact app
  · rw [List.concat_eq_append] at q
    subst q
    rw [runsOf_other.joinF_snoc']
    split
    · rename_i z
      refine ⟨fun y hy => ?_, ⟨_, List.mem_append_right _ List.mem_cons_self, rfl⟩⟩
      rcases List.mem_append.mp hy with a | a
      · exact ⟨y, List.mem_append_left _ a, rfl⟩
      · rw [List.mem_singleton.mp a]
        exact ⟨_, List.mem_append_right _ List.mem_cons_self, by rw [z]⟩
    · exact app
theorem found_has {j m : Nat} {t : Int} {l : Nat} (h : (P.ticks R j).ranAt R j = some (t, l)) (hm : j < m) : ∃ y ∈ (P.ticks R m).found, y.2.2 = (t, (l : Int)) := by
  induction m with
  | zero => omega
  | succ m ih =>
    show ∃ y ∈ ((P.ticks R m).tick R m).found, _
    rw [found_tick]
    by_cases z : j = m
    · subst z
      rw [h]
      exact keep_join.2
    · obtain ⟨y, h1, h2⟩ := ih (by omega)
      cases (P.ticks R m).ranAt R m with
      | none => exact ⟨y, h1, h2⟩
      | some tl =>
        obtain ⟨y', h3, h4⟩ := keep_join.1 y h1
        exact ⟨y', h3, h4.trans h2⟩
/-- a line more, never reached -/
theorem more_line {ts : List (Int × List Int)} {S S' : LSt} {m : Nat} (ok : R.Ok) (ok' : R'.Ok) (q : RX n R R') (w : Wf R.lines.length [] S) (w' : Wf R'.lines.length [] S') (xs : XS S S') (hc : S.cards = []) (hc' : S'.cards = []) (tok : TasksOk ts)
    (hno : ∀ x ∈ ((Ply.begin S ts).ticks R m).found, x.2.2.2 ≠ (n : Int) - 1) : PX ((Ply.begin S ts).ticks R m) ((Ply.begin S' ts).ticks R' m) := by
  have iv := PInv.begin (R := R) (S := S) (ts := ts) w hc tok
  have iv' := PInv.begin (R := R') (S := S') (ts := ts) w' hc' tok
  have key : ∀ j, j ≤ m → PX ((Ply.begin S ts).ticks R j) ((Ply.begin S' ts).ticks R' j) := by
    intro j
    induction j with
    | zero => intro _; exact ⟨xs, rfl, rfl, rfl, rfl⟩
    | succ j ih =>
      intro hj
      have h := ih (by omega)
      have ij := (iv.ticks ok j).1
      have ij' := (iv'.ticks ok' j).1
      have hm := h.mid ij ij' ok ok' q
      have im := (ij.enter ok).1.boost ok
      have im' := (ij'.enter ok').1.boost ok'
      refine hm.run im im' q fun t l e => ?_
      obtain ⟨y, y1, y2⟩ := found_has (R := R) (P := Ply.begin S ts) (j := j) (m := m) e hj
      have := hno y y1
      rw [y2] at this
      dsimp only at this
      have hln : l < n := by
        cases f : (((Ply.begin S ts).ticks R j).enter R j |>.boost R).S.first with
        | none => rw [ran_none f] at e; cases e
        | some u =>
          rw [ran_some f] at e
          obtain ⟨c, c1, _⟩ := run_some (R := R) (m := 1) im.wf f
          rw [LSt.card_of c1] at e
          cases Option.some.inj e
          have := (im.wf.key _ c c1).2.2.1
          rw [q.len] at this
          exact this
      omega
  exact key m (Nat.le_refl _)
end
end Qn

/-! M22: a task more at the end; boosts later than the end; the first run. -/
namespace Qn
open PySem L2
/-! a task more, that comes no sooner than m -/
structure PL (m : Int) (z : List Int) (p p' : Ply) (N : Int) : Prop where
  S : p'.S = p.S
  left : p'.left = p.left ++ [z]
  ends : p'.ends = p.ends ++ [none]
  found : p'.found = p.found
  wk : ∀ j, N ≤ j → j < m → getW p'.wk j = getW p.wk j
section
variable {R : Rul} {p p' P : Ply} {n k : Nat} {t N m : Int} {z : List Int} {ts : List (Int × List Int)} {S : LSt} {xs : List Int} {i : Nat}
theorem PL.tick (h : PL m z p p' N) (iv : PInv R k p N) (ok : R.Ok) (hm : N < m) : PL m z (p.tick R N) (p'.tick R N) (N + 1) := by
  have im := (iv.enter ok).1.boost ok
  have hmid : PL m z ((p.enter R N).boost R) ((p'.enter R N).boost R) (N + 1) := by
    have e1 : (p'.enter R N).S = (p.enter R N).S := by
      unfold Ply.enter
      dsimp only
      rw [h.wk N (Int.le_refl _) hm, h.S]
    refine ⟨by unfold Ply.boost; dsimp only; rw [e1], h.left, h.ends, h.found, fun j h1 h2 => ?_⟩
    show getW (delW p'.wk N) j = getW (delW p.wk N) j
    rw [getW_del (by omega), getW_del (by omega)]
    exact h.wk j (by omega) h2
  unfold Ply.tick
  generalize (p.enter R N).boost R = q at im hmid
  generalize (p'.enter R N).boost R = q' at hmid
  cases f : q.S.first with
  | none =>
    rw [runTo_none f, runTo_none (by rw [hmid.S]; exact f)]
    exact ⟨by dsimp only; rw [hmid.S], hmid.left, hmid.ends, hmid.found, hmid.wk⟩
  | some t =>
    have f' : q'.S.first = some t := by rw [hmid.S]; exact f
    obtain ⟨i, xs, rfl, hx, ho, _, hk⟩ := im.runOk t f
    have hil : i < q.left.length := (List.getElem?_eq_some_iff.mp hx).1
    have hx' : q'.left[i]? = some xs := by rw [hmid.left, List.getElem?_append_left hil]; exact hx
    have hset : ∀ v : List Int, q'.left.set i v = q.left.set i v ++ [z] := fun v => by rw [hmid.left, List.set_append_left _ _ hil]
    have hj : joinF q'.found N (N + 1) i ((q'.S.card i).line : Nat) = joinF q.found N (N + 1) i ((q.S.card i).line : Nat) := by rw [hmid.S, hmid.found]
    cases xs with
    | nil => simp at ho
    | cons x r0 =>
    by_cases y : x - 1 = 0
    · cases r0 with
      | nil =>
        rw [runTo_end f hx y, runTo_end f' hx' y]
        refine ⟨by dsimp only; rw [hmid.S], hset _, ?_, hj, hmid.wk⟩
        show q'.ends.set i _ = q.ends.set i _ ++ [none]
        rw [hmid.ends, List.set_append_left _ _ hk]
      | cons w r =>
        rw [runTo_wait f hx y, runTo_wait f' hx' y]
        refine ⟨by dsimp only; rw [hmid.S], hset _, hmid.ends, hj, fun j h1 h2 => ?_⟩
        show getW (addW q'.wk (N + 1 + w) i) j = getW (addW q.wk (N + 1 + w) i) j
        rw [getW_add, getW_add]
        by_cases e : j = N + 1 + w
        · rw [if_pos e, if_pos e, ← e, hmid.wk j h1 h2]
        · rw [if_neg e, if_neg e, hmid.wk j h1 h2]
    · rw [runTo_more f hx y, runTo_more f' hx' y]
      exact ⟨by dsimp only; rw [hmid.S], hset _, hmid.ends, hj, hmid.wk⟩
theorem PL.begin : PL m z (Ply.begin S ts) (Ply.begin S (ts ++ [(m, z)])) 0 := by
  refine ⟨rfl, by show (ts ++ [(m, z)]).map _ = _; rw [List.map_append]; rfl, by show (ts ++ [(m, z)]).map _ = _; rw [List.map_append]; rfl, rfl, fun j _ h2 => ?_⟩
  show getW ((ts ++ [(m, z)]).zipIdx.foldl (fun w x => addW w x.1.1 (x.2 : Nat)) []) j = getW (ts.zipIdx.foldl (fun w x => addW w x.1.1 (x.2 : Nat)) []) j
  rw [List.zipIdx_append, List.foldl_append]
  show getW (addW _ m _) j = _
  rw [getW_add, if_neg (by omega)]
theorem late_task (iv : PInv R n (Ply.begin S ts) 0) (ok : R.Ok) {u : Nat} (hu : (u : Int) ≤ m) : PL m z ((Ply.begin S ts).ticks R u) ((Ply.begin S (ts ++ [(m, z)])).ticks R u) u := by
  have key : ∀ j : Nat, j ≤ u → PL m z ((Ply.begin S ts).ticks R j) ((Ply.begin S (ts ++ [(m, z)])).ticks R j) j := by
    intro j
    induction j with
    | zero => intro _; exact PL.begin
    | succ j ih =>
      intro hj
      have h := (ih (by omega)).tick (iv.ticks ok j).1 ok (by omega)
      rw [show ((j + 1 : Nat) : Int) = (j : Int) + 1 by omega]
      exact h
  exact key u (Nat.le_refl _)
theorem getD_none {es : List (Option Int)} {i : Nat} : (es ++ [none]).getD i none = es.getD i none := by
  rw [List.getD_eq_getElem?_getD, List.getD_eq_getElem?_getD]
  by_cases h : i < es.length
  · rw [List.getElem?_append_left h]
  · rw [List.getElem?_append_right (by omega), List.getElem?_eq_none (show es.length ≤ i by omega)]
    by_cases h2 : i - es.length = 0
    · rw [h2]; rfl
    · rw [List.getElem?_eq_none (by simp; omega)]
/-! boosts later than the end -/
theorem boost_late {L : List (Int × Int)} {kp : Bool} {b : Int} (tm : P.S.time = 0) {u : Nat} (hu : (u : Int) ≤ b) : P.ticks ⟨L, some b, kp⟩ u = P.ticks ⟨L, none, kp⟩ u := by
  induction u with
  | zero => rfl
  | succ u ih =>
    have h := ih (by omega)
    show (P.ticks ⟨L, some b, kp⟩ u).tick ⟨L, some b, kp⟩ u = (P.ticks ⟨L, none, kp⟩ u).tick ⟨L, none, kp⟩ u
    rw [h]
    have ht : (P.ticks ⟨L, none, kp⟩ u).S.time = u := by rw [time_ticks, tm]; omega
    generalize P.ticks ⟨L, none, kp⟩ u = q at ht
    have he : q.enter ⟨L, some b, kp⟩ u = q.enter ⟨L, none, kp⟩ u := rfl
    have hte : (q.enter ⟨L, none, kp⟩ u).S.time = u := by rw [time_enter, ht]
    unfold Ply.tick
    rw [he]
    generalize q.enter ⟨L, none, kp⟩ u = q2 at hte
    have hb : q2.boost ⟨L, some b, kp⟩ = q2.boost ⟨L, none, kp⟩ := by
      have d1 : q2.S.due ⟨L, some b, kp⟩ = false := by
        unfold LSt.due
        dsimp only
        rw [hte]
        by_cases z : u = 0
        · subst z; rfl
        · have : (u : Int) % b ≠ 0 := by rw [Int.emod_eq_of_lt (by omega) (by omega)]; omega
          rw [decide_eq_false this, Bool.and_false]
      have d2 : q2.S.due ⟨L, none, kp⟩ = false := rfl
      unfold Ply.boost LSt.boostNow
      rw [d1, d2]
      rfl
    rw [hb]
    rfl
/-! the first run -/
theorem ents_row : ∀ {xs : List Int} {S : LSt}, (∀ t ∈ xs, look S.cards t = none) → xs.Nodup → 0 < S.rows.length → (xs.foldl (Ply.enter1 R) S).row 0 = S.row 0 ++ xs ∧ (∀ j, 0 < j → (xs.foldl (Ply.enter1 R) S).row j = S.row j) ∧ (xs.foldl (Ply.enter1 R) S).rows.length = S.rows.length
  | [], S, _, _, _ => ⟨(List.append_nil _).symm, fun _ _ => rfl, rfl⟩
  | u :: r, S, h, nd, hn => by
    obtain ⟨n1, n2⟩ := List.nodup_cons.mp nd
    have e := h u List.mem_cons_self
    have e1 : Ply.enter1 R S u = S.come R u := by unfold Ply.enter1; rw [e]; rfl
    rw [List.foldl_cons, e1]
    obtain ⟨a1, a2, a3⟩ := ents_row (xs := r) (S := S.come R u) (fun t ht => by
      rw [look_come e, if_neg (fun z : t = u => n1 (by rw [← z]; exact ht))]
      exact h t (List.mem_cons_of_mem _ ht)) n2 (by rw [len_come]; exact hn)
    refine ⟨?_, fun j hj => ?_, by rw [a3, len_come]⟩
    · rw [a1, row_come hn, if_pos rfl, List.append_assoc]; rfl
    · rw [a2 j hj, row_come hn, if_neg (by omega)]
theorem join_head {fs : List Run4} {b e t l : Int} {x : Run4} (h : fs.head? = some x) : ∃ y, (joinF fs b e t l).head? = some y ∧ y.1 = x.1 ∧ y.2.2 = x.2.2 := by
  cases fs with
  | nil => cases h
  | cons a r =>
    have hax : a = x := Option.some.inj h
    rw [← hax]
    have app : ∃ y, (a :: r ++ [(b, e, t, l)]).head? = some y ∧ y.1 = a.1 ∧ y.2.2 = a.2.2 := ⟨a, rfl, rfl, rfl⟩
    unfold joinF
    split
    · rename_i x2 hx2
      split
      · rename_i z
        cases r with
        | nil =>
          have : a = x2 := by simpa using hx2
          subst this
          exact ⟨_, rfl, rfl, by rw [z]⟩
        | cons a2 r2 => exact ⟨a, rfl, rfl, rfl⟩
      · exact app
    · exact app
theorem first_run {m0 i0 : Nat} {b0 : List Int} (ok : R.Ok) (w : Wf R.lines.length [] S) (hc : S.cards = []) (tok : TasksOk ts) (h0 : ts[i0]? = some ((m0 : Int), b0)) (hmin : ∀ (i : Nat) mo bs, ts[i]? = some (mo, bs) → (m0 : Int) ≤ mo ∧ (mo = m0 → i0 ≤ i)) (N : Nat) :
    ∀ x, ((Ply.begin S ts).ticks R N).found.head? = some x → x.1 = m0 ∧ x.2.2.1 = i0 := by
  have iv := PInv.begin (R := R) (S := S) (ts := ts) w hc tok
  have hn := ok.one
  have ci : ∀ (j i : Nat) mo bs, ts[i]? = some (mo, bs) → CI bs mo ((Ply.begin S ts).ticks R j) j i := fun j i mo bs e => CI.ticks iv ok (CI.begin hc tok e)
  have none_of : ∀ {p : Ply} {M : Int}, PInv R ts.length p M → (∀ (i : Nat) mo bs, ts[i]? = some (mo, bs) → look p.S.cards i = none) → ∀ t, look p.S.cards t = none := fun {p M} ip h t => by
    cases e : look p.S.cards t with
    | none => rfl
    | some c =>
      obtain ⟨t0, t1, _⟩ := ip.cn t c e
      obtain ⟨i, rfl⟩ := Int.eq_ofNat_of_zero_le t0
      have := h i _ _ (List.getElem?_eq_getElem (show i < ts.length by omega))
      rw [e] at this; cases this
  have cards0 : ∀ j, j ≤ m0 → ∀ t, look ((Ply.begin S ts).ticks R j).S.cards t = none := fun j hj => none_of (iv.ticks ok j).1 fun i mo bs e => by
    have := (hmin i mo bs e).1
    cases (ci j i mo bs e).st with
    | away a1 _ _ _ _ => exact a1
    | ready _ _ _ _ a4 _ => omega
    | waits _ _ _ _ _ _ _ a4 _ _ _ _ => omega
    | gone _ _ _ _ a4 a5 _ _ => omega
  have found0 : ∀ j, j ≤ m0 → ((Ply.begin S ts).ticks R j).found = [] := by
    intro j
    induction j with
    | zero => intro _; rfl
    | succ j ih =>
      intro hj
      show (((Ply.begin S ts).ticks R j).tick R j).found = []
      rw [found_tick]
      have iq := ((iv.ticks ok j).1.enter ok).1.boost ok
      have hq : ∀ t, look ((((Ply.begin S ts).ticks R j).enter R j).boost R).S.cards t = none := none_of iq fun i mo bs e => by
        have := (hmin i mo bs e).1
        cases ((ci j i mo bs e).mid (R := R) (iv.ticks ok j).1).st with
        | away a1 _ _ _ _ => exact a1
        | ready _ _ _ _ a4 _ => omega
        | waits _ _ _ _ _ _ _ a4 _ _ _ _ => omega
        | gone _ _ _ _ a4 a5 _ _ => omega
      have hr : ((Ply.begin S ts).ticks R j).ranAt R j = none := by
        show (((((Ply.begin S ts).ticks R j).enter R j).boost R).S).ran = none
        cases f : ((((Ply.begin S ts).ticks R j).enter R j).boost R).S.first with
        | none => exact ran_none f
        | some t =>
          obtain ⟨c, c1, _⟩ := run_some (R := R) (m := 1) iq.wf f
          rw [hq t] at c1; cases c1
      rw [hr]
      exact ih (by omega)
  have hit : ∃ l, ((Ply.begin S ts).ticks R m0).ranAt R m0 = some ((i0 : Int), l) := by
    have iN := (iv.ticks ok m0).1
    have hL := cards0 m0 (Nat.le_refl _)
    have hcm : ∀ (i : Nat) mo bs, ts[i]? = some (mo, bs) → ((i : Int) ∈ getW ((Ply.begin S ts).ticks R m0).wk m0 ↔ mo = m0) := fun i mo bs e => by
      have := (hmin i mo bs e).1
      cases (ci m0 i mo bs e).st with
      | away a1 a2 a3 _ _ =>
        constructor
        · intro hi
          exact Classical.byContradiction fun z => not_twice iN.kn iN.wn a3 z hi
        · intro z; rw [← z]; exact a3
      | ready _ _ _ _ a4 _ => omega
      | waits _ _ _ _ _ _ _ a4 _ _ _ _ => omega
      | gone _ _ _ _ a4 a5 _ _ => omega
    generalize (Ply.begin S ts).ticks R m0 = p at iN hL hcm
    have eo := iN.enOk m0
    have sp := sortI_perm (getW p.wk m0)
    have sl := sortI_le (getW p.wk m0)
    have hrow : ∀ j, p.S.row j = [] := fun j => by
      cases e : p.S.row j with
      | nil => rfl
      | cons t r =>
        obtain ⟨_, c, c1, _⟩ := (iN.wf.mem j t).mp (by rw [e]; exact List.mem_cons_self)
        rw [hL t] at c1; cases c1
    have hnr : 0 < p.S.rows.length := by rw [iN.wf.rl]; exact hn
    obtain ⟨r1, r2, r3⟩ := ents_row (R := R) (xs := sortI (getW p.wk m0)) (S := p.S) (fun t _ => hL t) (sp.nodup_iff.mpr eo.nd) hnr
    have hhead : (sortI (getW p.wk m0)).head? = some (i0 : Int) := by
      have hin : (i0 : Int) ∈ sortI (getW p.wk m0) := sp.mem_iff.mpr ((hcm i0 _ _ h0).mpr rfl)
      have hall : ∀ t ∈ sortI (getW p.wk m0), (i0 : Int) ≤ t := fun t ht => by
        have ht' := sp.mem_iff.mp ht
        obtain ⟨t0, t1, _⟩ := iN.wt t (in_flat ht')
        obtain ⟨i, rfl⟩ := Int.eq_ofNat_of_zero_le t0
        have e := List.getElem?_eq_getElem (l := ts) (show i < ts.length by omega)
        have hm := (hcm i ts[i].1 ts[i].2 e).mp ht'
        have := (hmin i ts[i].1 ts[i].2 e).2 hm
        omega
      generalize sortI (getW p.wk m0) = xs at sl hin hall
      cases xs with
      | nil => cases hin
      | cons a r =>
        have h1 := hall a List.mem_cons_self
        rcases List.mem_cons.mp hin with y | y
        · rw [← y]; rfl
        · have := (List.pairwise_cons.mp sl).1 _ y
          show some a = _
          congr 1; omega
    have hS : (p.enter R m0).S = (sortI (getW p.wk m0)).foldl (Ply.enter1 R) p.S := rfl
    have hne : sortI (getW p.wk m0) ≠ [] := fun z => by rw [z] at hhead; cases hhead
    have q0 : ∀ j, 0 < j → ((p.enter R m0).boost R).S.row j = [] := fun j hj => by
      show (LSt.boostNow R (p.enter R m0).S).row j = []
      unfold LSt.boostNow
      split
      · rw [row_boosted (by rw [hS, r3]; exact hnr), if_neg (by omega)]
      · rw [hS, r2 j hj, hrow]
    have q1 : (((p.enter R m0).boost R).S.row 0).head? = some (i0 : Int) := by
      show ((LSt.boostNow R (p.enter R m0).S).row 0).head? = _
      unfold LSt.boostNow
      split
      · rw [row_boosted (by rw [hS, r3]; exact hnr), if_pos rfl, hS, r1, hrow, List.nil_append, List.head?_append, hhead]
        rfl
      · rw [hS, r1, hrow, List.nil_append, hhead]
    have iq := (iN.enter ok).1.boost ok
    have hf := first_row0 q0 (by rw [iq.wf.rl]; exact hn)
    rw [q1] at hf
    exact ⟨_, ran_some hf⟩
  have later : ∀ k : Nat, ∃ y, ((Ply.begin S ts).ticks R (m0 + 1 + k)).found.head? = some y ∧ y.1 = m0 ∧ y.2.2.1 = i0 := by
    intro k
    induction k with
    | zero =>
      obtain ⟨l, hl⟩ := hit
      show ∃ y, (((Ply.begin S ts).ticks R m0).tick R m0).found.head? = some y ∧ _
      rw [found_tick, hl, found0 m0 (Nat.le_refl _)]
      exact ⟨_, rfl, rfl, rfl⟩
    | succ k ih =>
      obtain ⟨y, y1, y2, y3⟩ := ih
      show ∃ y, (((Ply.begin S ts).ticks R (m0 + 1 + k)).tick R (m0 + 1 + k : Nat)).found.head? = some y ∧ _
      rw [found_tick]
      cases ((Ply.begin S ts).ticks R (m0 + 1 + k)).ranAt R (m0 + 1 + k : Nat) with
      | none => exact ⟨y, y1, y2, y3⟩
      | some tl =>
        obtain ⟨y', h1, h2, h3⟩ := join_head (b := ((m0 + 1 + k : Nat) : Int)) (e := ((m0 + 1 + k : Nat) : Int) + 1) (t := tl.1) (l := (tl.2 : Int)) y1
        exact ⟨y', h1, h2.trans y2, by rw [h3]; exact y3⟩
  intro x hx
  by_cases hN : N ≤ m0
  · rw [found0 N hN] at hx; cases hx
  · obtain ⟨y, y1, y2, y3⟩ := later (N - (m0 + 1))
    rw [show m0 + 1 + (N - (m0 + 1)) = N by omega, hx] at y1
    cases Option.some.inj y1
    exact ⟨y2, y3⟩
end
end Qn

/-! M23: plays with one more that gives up; moments reckoned quickly. -/
namespace Qn
open PySem L2
/-! ### reckoned quickly -/
def insI (x : Int) : List Int → List Int
  | [] => [x]
  | y :: r => if x ≤ y then x :: y :: r else y :: insI x r
def insS : List Int → List Int
  | [] => []
  | x :: r => insI x (insS r)
theorem insI_perm {x : Int} : ∀ {r : List Int}, (insI x r).Perm (x :: r)
  | [] => .refl _
  | y :: r => by
    unfold insI
    split
    · exact .refl _
    · exact ((insI_perm (x := x) (r := r)).cons y).trans (.swap x y r)
theorem insI_le {x : Int} : ∀ {r : List Int}, r.Pairwise (· ≤ ·) → (insI x r).Pairwise (· ≤ ·)
  | [], _ => by simp [insI]
  | y :: r, h => by
    unfold insI
    obtain ⟨h1, h2⟩ := List.pairwise_cons.mp h
    split
    · rename_i z
      refine List.pairwise_cons.mpr ⟨fun w hw => ?_, h⟩
      rcases List.mem_cons.mp hw with e | e
      · omega
      · have := h1 w e; omega
    · rename_i z
      refine List.pairwise_cons.mpr ⟨fun w hw => ?_, insI_le h2⟩
      rcases List.mem_cons.mp (insI_perm.mem_iff.mp hw) with e | e
      · omega
      · exact h1 w e
theorem insS_perm : ∀ {r : List Int}, (insS r).Perm r
  | [] => .refl _
  | x :: r => insI_perm.trans ((insS_perm (r := r)).cons x)
theorem insS_le : ∀ {r : List Int}, (insS r).Pairwise (· ≤ ·)
  | [] => .nil
  | x :: r => insI_le (insS_le (r := r))
theorem sortI_ins {xs : List Int} : sortI xs = insS xs := (sortI_uniq insS_le insS_perm).symm
namespace Ply
def enterQ (R : Rul) (p : Ply) (now : Int) : Ply := { p with S := (insS (getW p.wk now)).foldl (enter1 R) p.S, wk := delW p.wk now }
theorem enter_q {R : Rul} {p : Ply} {now : Int} : p.enter R now = p.enterQ R now := by unfold enter enterQ; rw [sortI_ins]
def tickQ (R : Rul) (p : Ply) (now : Int) : Ply := ((p.enterQ R now).boost R).runTo R now (now + 1)
def ticksQ (R : Rul) (p : Ply) : Nat → Ply
  | 0 => p
  | n + 1 => (ticksQ R p n).tickQ R n
theorem tick_q {R : Rul} {p : Ply} {now : Int} : p.tick R now = p.tickQ R now := by unfold tick tickQ; rw [enter_q]
theorem ticks_q {R : Rul} {p : Ply} : ∀ n, p.ticks R n = p.ticksQ R n
  | 0 => rfl
  | n + 1 => by unfold ticks ticksQ; rw [ticks_q n, tick_q]
/-! ### the one more -/
def giveUp (p : Ply) (me : Nat) (now : Int) : Ply := { p with S := p.S.wait me, wk := addW p.wk (now + 2) me }
/-- who runs at a moment -/
def whoM (R : Rul) (p : Ply) (now : Int) : Option Int := ((p.enter R now).boost R).S.first
def gplay (R : Rul) (me : Nat) (mv : List Int) (p : Ply) : Nat → Option (Ply × Nat)
  | 0 => some (p, 0)
  | n + 1 => match gplay R me mv p n with
    | none => none
    | some (q, r) => if q.whoM R n = some (me : Int) then some (if (n : Int) ∈ mv then (q.tick R n).giveUp me n else q.tick R n, r + 1)
      else if (n : Int) ∈ mv then none else some (q.tick R n, r)
end Ply
section
variable {R : Rul} {p P : Ply} {n me r : Nat} {now x : Int} {mv : List Int}
/-- it gives up: all stays well -/
theorem PInv.giveUp {c : Card} (h : PInv R n p (now + 1)) (hc : look p.S.cards me = some c) (hr : c.rdy = true) : PInv R n (p.giveUp me now) (now + 1) := by
  obtain ⟨m0, m1, _⟩ := h.cn me c hc
  have nw : (me : Int) ∉ (p.wk.map Prod.snd).flatten := fun z => by
    have := (h.wt _ z).2.2 c hc
    rw [hr] at this; cases this
  have pf := addW_flat (wk := p.wk) (m := now + 2) (t := (me : Int))
  have inn : ∀ t, t ∈ ((addW p.wk (now + 2) me).map Prod.snd).flatten ↔ t = me ∨ t ∈ (p.wk.map Prod.snd).flatten := fun t => by
    rw [pf.mem_iff, List.mem_cons]
  have lk : ∀ t c', look (p.S.wait me).cards t = some c' → ∃ c, look p.S.cards t = some c ∧ (t ≠ me → c' = c) ∧ (t = me → c'.rdy = false) := fun t c' e => by
    rw [look_wait] at e
    by_cases z : t = me
    · rw [if_pos z, z, hc] at e
      exact ⟨c, by rw [z]; exact hc, fun y => absurd z y, fun _ => by rw [← Option.some.inj e]⟩
    · rw [if_neg z] at e
      exact ⟨c', e, fun _ => rfl, fun y => absurd y z⟩
  refine ⟨h.wf.wait hc, h.bd.wait, h.nl, h.ne, h.n12, h.lf, fun i xs e o => ?_, addW_nodup h.kn, ?_, fun t ht => ?_, addW_ok h.wm (by omega), fun t c' e => ?_⟩
  · rcases o with o | o
    · rcases (inn _).mp o with z | z
      · exact h.lp i xs e (.inr (by rw [z, hc]; simp))
      · exact h.lp i xs e (.inl z)
    · refine h.lp i xs e (.inr ?_)
      cases e2 : look (p.giveUp me now).S.cards i with
      | none => exact absurd e2 o
      | some c' =>
        obtain ⟨c, e1, _⟩ := lk i c' e2
        rw [e1]; simp
  · exact pf.nodup_iff.mpr (List.nodup_cons.mpr ⟨nw, h.wn⟩)
  · rcases (inn t).mp ht with z | z
    · subst z
      refine ⟨m0, m1, fun c' e => ?_⟩
      obtain ⟨_, _, _, q⟩ := lk _ c' e
      exact q rfl
    · obtain ⟨a1, a2, a3⟩ := h.wt t z
      refine ⟨a1, a2, fun c' e => ?_⟩
      obtain ⟨c2, e1, e2, e3⟩ := lk t c' e
      by_cases y : t = me
      · exact e3 y
      · rw [e2 y]; exact a3 c2 e1
  · obtain ⟨c2, e1, e2, e3⟩ := lk t c' e
    obtain ⟨a1, a2, a3⟩ := h.cn t c2 e1
    refine ⟨a1, a2, fun y => (inn t).mpr ?_⟩
    by_cases z : t = me
    · exact .inl z
    · rw [e2 z] at y
      exact .inr (a3 y)
/-- its left, by who runs -/
theorem mine_tick (iv : PInv R n p now) (ok : R.Ok) (hx : p.left[me]? = some [x]) (x2 : 2 ≤ x) :
    (p.whoM R now = some (me : Int) → (p.tick R now).left[me]? = some [x - 1] ∧ ∃ c, look (p.tick R now).S.cards me = some c ∧ c.rdy = true) ∧
    (p.whoM R now ≠ some (me : Int) → (p.tick R now).left[me]? = some [x]) := by
  have im := (iv.enter ok).1.boost ok
  have hx' : ((p.enter R now).boost R).left[me]? = some [x] := hx
  unfold Ply.whoM Ply.tick
  generalize (p.enter R now).boost R = q at im hx'
  refine ⟨fun f => ?_, fun f => ?_⟩
  · have hl : me < q.left.length := (List.getElem?_eq_some_iff.mp hx').1
    rw [runTo_more f hx' (by omega)]
    refine ⟨by dsimp only; rw [List.getElem?_set_self hl], ?_⟩
    obtain ⟨c, c1, c2, _, _, _, c6, _⟩ := run_some (R := R) (m := 1) im.wf f
    exact ⟨chg R R.lines.length c 1, by dsimp only; rw [c6, if_pos rfl], c2⟩
  · cases f1 : q.S.first with
    | none => rw [runTo_none f1]; exact hx'
    | some t =>
      obtain ⟨i, xs, rfl, hxs, ho, _, hk⟩ := im.runOk t f1
      have hne : i ≠ me := fun z => f (by rw [f1, z])
      cases xs with
      | nil => simp at ho
      | cons y r0 =>
        by_cases z : y - 1 = 0
        · cases r0 with
          | nil => rw [runTo_end f1 hxs z]; dsimp only; rw [List.getElem?_set_ne hne]; exact hx'
          | cons w r => rw [runTo_wait f1 hxs z]; dsimp only; rw [List.getElem?_set_ne hne]; exact hx'
        · rw [runTo_more f1 hxs z]; dsimp only; rw [List.getElem?_set_ne hne]; exact hx'
/-- what stands behind n moments -/
structure GI (R : Rul) (me : Nat) (x0 : Int) (n : Nat) (q : Ply) (r : Nat) : Prop where
  iv : PInv R (me + 1) q n
  left : q.left[me]? = some [x0 - r]
  rn : r ≤ n
  fl : q.found.length ≤ n
theorem GI.start {x0 : Int} (iv : PInv R (me + 1) P 0) (h : P.left[me]? = some [x0]) (hf : P.found = []) : GI R me x0 0 P 0 := ⟨iv, by rw [h]; simp, Nat.le_refl _, by rw [hf]; simp⟩
/-- a moment: who runs tells all -/
theorem GI.step {x0 : Int} {q : Ply} (g : GI R me x0 n q r) (ok : R.Ok) (hx : (n : Int) + 2 ≤ x0) :
    (q.whoM R n = some (me : Int) → GI R me x0 (n + 1) (q.tick R n) (r + 1) ∧ (∃ c, look (q.tick R n).S.cards me = some c ∧ c.rdy = true) ∧ GI R me x0 (n + 1) ((q.tick R n).giveUp me n) (r + 1)) ∧
    (q.whoM R n ≠ some (me : Int) → GI R me x0 (n + 1) (q.tick R n) r) := by
  obtain ⟨i1, i2⟩ := g.iv.tick ok
  have rn := g.rn
  obtain ⟨m1, m2⟩ := mine_tick g.iv ok g.left (by omega)
  have fl := g.fl
  refine ⟨fun f => ?_, fun f => ⟨i1, m2 f, by omega, by omega⟩⟩
  obtain ⟨a1, c, c1, c2⟩ := m1 f
  have e : x0 - (r : Int) - 1 = x0 - ((r + 1 : Nat) : Int) := by omega
  rw [e] at a1
  exact ⟨⟨i1, a1, by omega, by omega⟩, ⟨c, c1, c2⟩, i1.giveUp c1 c2, a1, by omega, by show (q.tick R n).found.length ≤ n + 1; omega⟩
theorem GI.play {x0 : Int} (g : GI R me x0 0 P 0) (ok : R.Ok) : ∀ (n : Nat) {q : Ply} {r : Nat}, (n : Int) + 1 ≤ x0 → P.gplay R me mv n = some (q, r) → GI R me x0 n q r
  | 0, q, r, _, e => by cases Option.some.inj e; exact g
  | n + 1, q, r, hx, e => by
    unfold Ply.gplay at e
    cases e1 : P.gplay R me mv n with
    | none => rw [e1] at e; cases e
    | some z =>
      obtain ⟨q0, r0⟩ := z
      have g0 := GI.play g ok n (by omega) e1
      rw [e1] at e
      dsimp only at e
      obtain ⟨s1, s2⟩ := g0.step ok (by omega)
      split at e
      · rename_i f
        obtain ⟨b1, _, b3⟩ := s1 f
        cases Option.some.inj e
        split
        · exact b3
        · exact b1
      · rename_i f
        split at e
        · cases e
        · cases Option.some.inj e
          exact s2 f
/-- moves that are the same up to a moment play the same up to it -/
theorem gplay_same {mv' : List Int} : ∀ (n : Nat), (∀ j : Nat, j < n → ((j : Int) ∈ mv ↔ (j : Int) ∈ mv')) → P.gplay R me mv n = P.gplay R me mv' n
  | 0, _ => rfl
  | n + 1, h => by
    unfold Ply.gplay
    rw [gplay_same n fun j hj => h j (by omega)]
    cases P.gplay R me mv' n with
    | none => rfl
    | some z =>
      dsimp only
      by_cases y : (n : Int) ∈ mv
      · have y' := (h n (by omega)).mp y
        simp only [if_pos y, if_pos y']
      · have y' : ¬ (n : Int) ∈ mv' := fun z => y ((h n (by omega)).mpr z)
        simp only [if_neg y, if_neg y']
theorem gplay_none {m : Nat} (h : P.gplay R me mv n = none) : n ≤ m → P.gplay R me mv m = none := fun hm => by
  induction m with
  | zero => rw [show n = 0 by omega] at h; cases h
  | succ m ih =>
    by_cases e : n = m + 1
    · rw [← e]; exact h
    · unfold Ply.gplay
      rw [ih (by omega)]
/-- behind all moves it always can -/
theorem gplay_on {m : Nat} {z : Ply × Nat} (h : P.gplay R me mv n = some z) (hm : ∀ j : Nat, n ≤ j → j < m → (j : Int) ∉ mv) : n ≤ m → ∃ z', P.gplay R me mv m = some z' ∧ z.2 ≤ z'.2 ∧ z'.2 ≤ z.2 + (m - n) := fun hn => by
  induction m with
  | zero => rw [show n = 0 by omega] at h ⊢; exact ⟨z, h, Nat.le_refl _, by omega⟩
  | succ m ih =>
    by_cases e : n = m + 1
    · subst e; exact ⟨z, h, Nat.le_refl _, by omega⟩
    · obtain ⟨z', h1, h2, h3⟩ := ih (fun j a b => hm j a (by omega)) (by omega)
      have := hm m (by omega) (by omega)
      unfold Ply.gplay
      rw [h1]
      simp only [if_neg this]
      split
      · exact ⟨_, rfl, by dsimp only; omega, by dsimp only; omega⟩
      · exact ⟨_, rfl, h2, by dsimp only; omega⟩
theorem gplay_le {m : Nat} {z : Ply × Nat} (h : P.gplay R me mv m = some z) : z.2 ≤ m := by
  induction m generalizing z with
  | zero => cases Option.some.inj h; exact Nat.le_refl _
  | succ m ih =>
    unfold Ply.gplay at h
    cases e : P.gplay R me mv m with
    | none => rw [e] at h; cases h
    | some y =>
      rw [e] at h
      dsimp only at h
      have := ih e
      split at h
      · cases Option.some.inj h; dsimp only; omega
      · split at h
        · cases h
        · cases Option.some.inj h; dsimp only; omega
end
/-! ### moves -/
/-- rising moments ahead of sp -/
structure Mv (sp : Nat) (m : List Int) : Prop where
  up : m.Pairwise (· < ·)
  bd : ∀ x ∈ m, 0 ≤ x ∧ x < sp
/-- (-r, z) is ahead of (-b, m) -/
def ahead (r : Nat) (z : List Int) (b : Nat) (m : List Int) : Bool := if r = b then HT.lexLt z m else decide (b < r)
/-- the most, by the first moves -/
structure Best (f : List Int → Option Nat) (sp : Nat) (b : Nat) (m : List Int) : Prop where
  mv : Mv sp m
  fm : f m = some b
  most : ∀ z r, Mv sp z → f z = some r → ahead r z b m = false
theorem lexLt_irrefl : ∀ xs : List Int, HT.lexLt xs xs = false
  | [] => rfl
  | x :: xs => by unfold HT.lexLt; rw [if_pos rfl]; exact lexLt_irrefl xs
theorem lexLt_total : ∀ xs ys : List Int, HT.lexLt xs ys = false → HT.lexLt ys xs = false → xs = ys
  | [], [], _, _ => rfl
  | [], _ :: _, h, _ => by cases h
  | _ :: _, [], _, h => by cases h
  | x :: xs, y :: ys, h1, h2 => by
    unfold HT.lexLt at h1 h2
    by_cases e : x = y
    · subst e
      rw [if_pos rfl] at h1 h2
      rw [lexLt_total xs ys h1 h2]
    · rw [if_neg e] at h1
      rw [if_neg fun z => e z.symm] at h2
      have := of_decide_eq_false h1
      have := of_decide_eq_false h2
      omega
theorem lexLt_trans : ∀ xs ys zs : List Int, HT.lexLt xs ys = true → HT.lexLt ys zs = true → HT.lexLt xs zs = true
  | [], _, [], h1, h2 => by
    rename_i ys; cases ys <;> cases h2 <;> cases h1
  | [], _, _ :: _, _, _ => rfl
  | _ :: _, [], _, h, _ => by cases h
  | _ :: _, _ :: _, [], _, h => by cases h
  | x :: xs, y :: ys, z :: zs, h1, h2 => by
    unfold HT.lexLt at h1 h2 ⊢
    by_cases e : x = y
    · subst e
      rw [if_pos rfl] at h1
      by_cases e2 : x = z
      · subst e2
        rw [if_pos rfl] at h2 ⊢
        exact lexLt_trans xs ys zs h1 h2
      · rw [if_neg e2] at h2 ⊢; exact h2
    · rw [if_neg e] at h1
      have a1 := of_decide_eq_true h1
      by_cases e2 : y = z
      · subst e2
        rw [if_neg e]; exact h1
      · rw [if_neg e2] at h2
        have a2 := of_decide_eq_true h2
        rw [if_neg (by omega)]
        exact decide_eq_true (by omega)
theorem ahead_total {r b : Nat} {z m : List Int} (h1 : ahead r z b m = false) (h2 : ahead b m r z = false) : r = b ∧ z = m := by
  unfold ahead at h1 h2
  by_cases e : r = b
  · subst e
    rw [if_pos rfl] at h1 h2
    exact ⟨rfl, lexLt_total _ _ h1 h2⟩
  · rw [if_neg e] at h1
    rw [if_neg fun q => e q.symm] at h2
    have := of_decide_eq_false h1
    have := of_decide_eq_false h2
    omega
theorem ahead_trans {r b c : Nat} {z m w : List Int} (h1 : ahead r z b m = true) (h2 : ahead b m c w = true) : ahead r z c w = true := by
  unfold ahead at h1 h2 ⊢
  by_cases e : r = b
  · subst e
    rw [if_pos rfl] at h1
    by_cases e2 : r = c
    · subst e2
      rw [if_pos rfl] at h2 ⊢
      exact lexLt_trans _ _ _ h1 h2
    · rw [if_neg e2] at h2 ⊢; exact h2
  · rw [if_neg e] at h1
    have a1 := of_decide_eq_true h1
    by_cases e2 : b = c
    · subst e2; rw [if_neg e]; exact h1
    · rw [if_neg e2] at h2
      have a2 := of_decide_eq_true h2
      rw [if_neg (by omega)]
      exact decide_eq_true (by omega)
theorem Best.uniq {f : List Int → Option Nat} {sp b b' : Nat} {m m' : List Int} (h : Best f sp b m) (h' : Best f sp b' m') : b = b' ∧ m = m' := ahead_total (h'.most m b h.mv h.fm) (h.most m' b' h'.mv h'.fm)
/-! ### the search -/
def lastM (mv : List Int) : Int := mv.getLast?.getD 0
def kidsM (sp : Nat) (mv : List Int) : List (List Int) := (List.range ((sp : Int) - (lastM mv + 1)).toNat).map fun i : Nat => mv ++ [lastM mv + 1 + (i : Int)]
/-- how many moves begin so -/
def wgt (sp : Nat) (mv : List Int) : Nat := 2 ^ ((sp : Int) - (lastM mv + 1)).toNat
/-- the search stands so: the best of what was tried; what begins with one that is left is still to come -/
structure GS (f : List Int → Option Nat) (sp b : Nat) (m : List Int) (l : List (List Int)) : Prop where
  mv : Mv sp m
  fm : f m = some b
  lm : ∀ y ∈ l, Mv sp y ∧ y ≠ []
  most : ∀ z r, Mv sp z → f z = some r → ahead r z b m = false ∨ ∃ y ∈ l, y <+: z
  w : (l.map (wgt sp)).sum ≤ 2 ^ sp - 1
theorem GS.done {f : List Int → Option Nat} {sp b : Nat} {m : List Int} (h : GS f sp b m []) : Best f sp b m := ⟨h.mv, h.fm, fun z r a e => (h.most z r a e).resolve_right fun ⟨y, hy, _⟩ => by cases hy⟩
/-- what can't be, can't be with more behind -/
def Pre (f : List Int → Option Nat) (sp : Nat) : Prop := ∀ y z, Mv sp y → Mv sp z → y <+: z → f y = none → f z = none
theorem sum_pow : ∀ n : Nat, ((List.range n).map fun i : Nat => 2 ^ (n - 1 - i)).sum = 2 ^ n - 1
  | 0 => rfl
  | n + 1 => by
    rw [List.range_succ_eq_map, List.map_cons, List.sum_cons, List.map_map]
    have e : ((fun i : Nat => 2 ^ (n + 1 - 1 - i)) ∘ Nat.succ) = fun i : Nat => 2 ^ (n - 1 - i) := by
      funext i
      show 2 ^ (n + 1 - 1 - (i + 1)) = 2 ^ (n - 1 - i)
      congr 1; omega
    rw [e, sum_pow n]
    have := Nat.one_le_two_pow (n := n)
    rw [Nat.pow_succ]
    show 2 ^ n + _ = _
    omega
theorem lastM_snoc {mv : List Int} {x : Int} : lastM (mv ++ [x]) = x := by unfold lastM; rw [List.getLast?_concat]; rfl
theorem wgt_kids {sp : Nat} {mv : List Int} : ((kidsM sp mv).map (wgt sp)).sum = wgt sp mv - 1 := by
  unfold kidsM
  rw [List.map_map]
  have e : ∀ i ∈ List.range ((sp : Int) - (lastM mv + 1)).toNat, (wgt sp ∘ fun i : Nat => mv ++ [lastM mv + 1 + (i : Int)]) i = 2 ^ (((sp : Int) - (lastM mv + 1)).toNat - 1 - i) := fun i hi => by
    have := List.mem_range.mp hi
    show 2 ^ ((sp : Int) - (lastM (mv ++ [lastM mv + 1 + (i : Int)]) + 1)).toNat = _
    rw [lastM_snoc]
    congr 1; omega
  rw [List.map_congr_left e, sum_pow]
  rfl
theorem wgt_pos {sp : Nat} {mv : List Int} : 1 ≤ wgt sp mv := Nat.one_le_two_pow
theorem wgt_len {sp : Nat} : ∀ {l : List (List Int)}, l.length ≤ (l.map (wgt sp)).sum
  | [] => Nat.le_refl _
  | y :: l => by
    have := wgt_len (sp := sp) (l := l)
    have := wgt_pos (sp := sp) (mv := y)
    simp only [List.length_cons, List.map_cons, List.sum_cons]
    omega
theorem Mv.pre {sp : Nat} {y z : List Int} (h : Mv sp z) (p : y <+: z) : Mv sp y := ⟨h.up.sublist p.sublist, fun x hx => h.bd x (p.subset hx)⟩
theorem Mv.snoc {sp : Nat} {y : List Int} {x : Int} (h : Mv sp y) (hx : 0 ≤ x ∧ x < sp) (hl : ∀ u ∈ y, u < x) : Mv sp (y ++ [x]) := ⟨by
  refine List.pairwise_append.mpr ⟨h.up, List.pairwise_singleton _ _, fun u hu v hv => ?_⟩
  rw [List.mem_singleton.mp hv]; exact hl u hu, fun u hu => by
  rcases List.mem_append.mp hu with z | z
  · exact h.bd u z
  · rw [List.mem_singleton.mp z]; exact hx⟩
theorem Mv.last {sp : Nat} {y : List Int} (h : Mv sp y) (ne : y ≠ []) : (0 ≤ lastM y ∧ lastM y < sp) ∧ (∀ u ∈ y, u ≤ lastM y) ∧ lastM y ∈ y := by
  obtain ⟨w, x, rfl⟩ : ∃ w x, y = w ++ [x] := ⟨y.dropLast, y.getLast ne, (List.dropLast_concat_getLast ne).symm⟩
  rw [lastM_snoc]
  have hm : x ∈ w ++ [x] := List.mem_append_right _ (List.mem_singleton_self _)
  refine ⟨h.bd x hm, fun u hu => ?_, hm⟩
  rcases List.mem_append.mp hu with z | z
  · have := (List.pairwise_append.mp h.up).2.2 u z x (List.mem_singleton_self _); omega
  · rw [List.mem_singleton.mp z]; exact Int.le_refl _
theorem Mv.kid {sp : Nat} {y : List Int} (h : Mv sp y) (ne : y ≠ []) : ∀ z ∈ kidsM sp y, Mv sp z ∧ z ≠ [] := fun z hz => by
  obtain ⟨i, hi, rfl⟩ := List.mem_map.mp hz
  have := List.mem_range.mp hi
  obtain ⟨a1, a2, a3⟩ := h.last ne
  exact ⟨h.snoc ⟨by omega, by omega⟩ fun u hu => by have := a2 u hu; omega, by simp⟩
theorem kid_mem {sp : Nat} {y w : List Int} {x : Int} (ne : y ≠ []) (h : Mv sp (y ++ x :: w)) : y ++ [x] ∈ kidsM sp y := by
  have hp : y <+: y ++ x :: w := ⟨_, rfl⟩
  obtain ⟨a1, a2, a3⟩ := (h.pre hp).last ne
  have h1 := (List.pairwise_append.mp h.up).2.2 _ a3 x List.mem_cons_self
  have h2 := h.bd x (List.mem_append_right _ List.mem_cons_self)
  refine List.mem_map.mpr ⟨(x - (lastM y + 1)).toNat, List.mem_range.mpr (by omega), ?_⟩
  congr 2; omega
theorem GS.start {f : List Int → Option Nat} {sp b : Nat} (h : f [] = some b) : GS f sp b [] ((List.range sp).map fun i : Nat => [(i : Int)]) := ⟨⟨.nil, fun _ hx => by cases hx⟩, h, fun y hy => by
    obtain ⟨i, hi, rfl⟩ := List.mem_map.mp hy
    have := List.mem_range.mp hi
    exact ⟨⟨List.pairwise_singleton _ _, fun x hx => by rw [List.mem_singleton.mp hx]; omega⟩, by simp⟩, fun z r hz e => by
    cases z with
    | nil =>
      rw [h] at e
      cases Option.some.inj e
      exact .inl (by unfold ahead; rw [if_pos rfl]; exact lexLt_irrefl _)
    | cons x w =>
      have := hz.bd x List.mem_cons_self
      refine .inr ⟨[x], List.mem_map.mpr ⟨x.toNat, List.mem_range.mpr (by omega), by congr 1; omega⟩, ⟨w, rfl⟩⟩, by
    rw [List.map_map]
    have e : ∀ i ∈ List.range sp, (wgt sp ∘ fun i : Nat => [(i : Int)]) i = 2 ^ (sp - 1 - i) := fun i hi => by
      show 2 ^ ((sp : Int) - (lastM ([] ++ [(i : Int)]) + 1)).toNat = _
      rw [lastM_snoc]
      congr 1; omega
    rw [List.map_congr_left e, sum_pow]
    exact Nat.le_refl _⟩
theorem GS.skip {f : List Int → Option Nat} {sp b : Nat} {m y : List Int} {l : List (List Int)} (h : GS f sp b m (y :: l)) (pr : Pre f sp) (e : f y = none) : GS f sp b m l := ⟨h.mv, h.fm, fun z hz => h.lm z (List.mem_cons_of_mem _ hz), fun z r a e1 => by
  rcases h.most z r a e1 with q | ⟨x, hx, p⟩
  · exact .inl q
  · rcases List.mem_cons.mp hx with q | q
    · subst q
      rw [pr x z (a.pre p) a p e] at e1; cases e1
    · exact .inr ⟨x, q, p⟩, by have := h.w; rw [List.map_cons, List.sum_cons] at this; omega⟩
theorem GS.take {f : List Int → Option Nat} {sp b r : Nat} {m y : List Int} {l : List (List Int)} (h : GS f sp b m (y :: l)) (e : f y = some r) :
    GS f sp (if ahead r y b m then r else b) (if ahead r y b m then y else m) (l ++ kidsM sp y) := by
  obtain ⟨hy, ne⟩ := h.lm y List.mem_cons_self
  have hlm : ∀ z ∈ l ++ kidsM sp y, Mv sp z ∧ z ≠ [] := fun z hz => by
    rcases List.mem_append.mp hz with q | q
    · exact h.lm z (List.mem_cons_of_mem _ q)
    · exact hy.kid ne z q
  have hw : ((l ++ kidsM sp y).map (wgt sp)).sum ≤ 2 ^ sp - 1 := by
    have := h.w
    have := wgt_pos (sp := sp) (mv := y)
    rw [List.map_cons, List.sum_cons] at *
    rw [List.map_append, List.sum_append, wgt_kids]
    omega
  have hp : ∀ z rz, Mv sp z → f z = some rz → y <+: z → (z = y ∧ rz = r) ∨ ∃ x ∈ l ++ kidsM sp y, x <+: z := fun z rz hz ez p => by
    obtain ⟨w, rfl⟩ := p
    cases w with
    | nil =>
      rw [List.append_nil] at ez ⊢
      rw [e] at ez
      exact .inl ⟨rfl, (Option.some.inj ez).symm⟩
    | cons x w => exact .inr ⟨y ++ [x], List.mem_append_right _ (kid_mem ne hz), ⟨w, by simp⟩⟩
  have hold : ∀ z rz, Mv sp z → f z = some rz → ahead rz z b m = false ∨ (z = y ∧ rz = r) ∨ ∃ x ∈ l ++ kidsM sp y, x <+: z := fun z rz hz ez => by
    rcases h.most z rz hz ez with q | ⟨x, hx, p⟩
    · exact .inl q
    · rcases List.mem_cons.mp hx with q | q
      · subst q; exact .inr (hp z rz hz ez p)
      · exact .inr (.inr ⟨x, List.mem_append_left _ q, p⟩)
  cases c : ahead r y b m with
  | false =>
    rw [if_neg Bool.false_ne_true, if_neg Bool.false_ne_true]
    refine ⟨h.mv, h.fm, hlm, fun z rz hz ez => ?_, hw⟩
    rcases hold z rz hz ez with q | ⟨rfl, rfl⟩ | q
    · exact .inl q
    · exact .inl c
    · exact .inr q
  | true =>
    rw [if_pos rfl, if_pos rfl]
    refine ⟨hy, e, hlm, fun z rz hz ez => ?_, hw⟩
    rcases hold z rz hz ez with q | ⟨rfl, rfl⟩ | q
    · refine .inl ?_
      cases c2 : ahead rz z r y with
      | false => rfl
      | true => rw [ahead_trans c2 c] at q; cases q
    · exact .inl (by unfold ahead; rw [if_pos rfl]; exact lexLt_irrefl _)
    · exact .inr q
/-! ### the game -/
/-- how many moments it runs ahead of sp, by its moves -/
def gameF (R : Rul) (S : LSt) (ts : List (Int × List Int)) (x0 : Int) (sp : Nat) (mv : List Int) : Option Nat := ((Ply.begin S (ts ++ [(0, [x0])])).gplay R ts.length mv sp).map (·.2)
theorem pre_has {y z : List Int} (p : y <+: z) (up : z.Pairwise (· < ·)) {j : Int} (h : j ∈ z) (hy : ∃ u ∈ y, j ≤ u) : j ∈ y := by
  obtain ⟨w, rfl⟩ := p
  rcases List.mem_append.mp h with q | q
  · exact q
  · obtain ⟨u, hu, hj⟩ := hy
    have := (List.pairwise_append.mp up).2.2 u hu j q
    omega
theorem gplay_stop {R : Rul} {P : Ply} {me : Nat} {mv : List Int} : ∀ {n : Nat}, P.gplay R me mv n = none → ∃ j : Nat, j < n ∧ (j : Int) ∈ mv ∧ P.gplay R me mv (j + 1) = none
  | 0, h => by cases h
  | n + 1, h => by
    cases e : P.gplay R me mv n with
    | none =>
      obtain ⟨j, h1, h2, h3⟩ := gplay_stop e
      exact ⟨j, by omega, h2, h3⟩
    | some z =>
      refine ⟨n, by omega, ?_, h⟩
      have h0 := h
      unfold Ply.gplay at h0
      rw [e] at h0
      dsimp only at h0
      split at h0
      · cases h0
      · split at h0
        · assumption
        · cases h0
theorem gameF_pre {R : Rul} {S : LSt} {ts : List (Int × List Int)} {x0 : Int} {sp : Nat} : Pre (gameF R S ts x0 sp) sp := fun y z hy hz p e => by
  unfold gameF at e ⊢
  rw [Option.map_eq_none_iff] at e ⊢
  obtain ⟨j, h1, h2, h3⟩ := gplay_stop e
  have : (Ply.begin S (ts ++ [(0, [x0])])).gplay R ts.length z (j + 1) = none := by
    rw [← h3]
    refine gplay_same _ fun i hi => ⟨fun hm => pre_has p hz.up hm ⟨j, h2, by omega⟩, fun hm => p.subset hm⟩
  exact gplay_none this (by omega)
end Qn

/-! M25: lines where what is gone waits for ever: a game by lines of one's own. -/
namespace Qn
open PySem L2
structure Gn (A B : LSt) : Prop where
  row : ∀ j, A.row j = B.row j
  yes : ∀ t c, look A.cards t = .some c → look B.cards t = .some c
  no : ∀ t c, look A.cards t = .none → look B.cards t = .some c → c.rdy = false
  time : A.time = B.time
section
variable {R : Rul} {A B S : LSt} {n k me r : Nat} {t u : Int} {N : Nat} {c d : Card} {j : Nat} {p p' P P' : Ply}
theorem Gn.rows (s : Gn A B) (w : Wf n [] A) (w' : Wf n [] B) : A.rows = B.rows := by
  have h1 := w.rl
  have h2 := w'.rl
  apply List.ext_getElem
  · omega
  · intro i a b
    have hr := s.row i
    rw [LSt.row_some (S := B) (List.getElem?_eq_getElem b), LSt.row_some (S := A) (List.getElem?_eq_getElem a)] at hr
    exact hr
theorem Gn.first (s : Gn A B) (w : Wf n [] A) (w' : Wf n [] B) : A.first = B.first := by
  unfold LSt.first LSt.rdyIx LSt.row
  rw [s.rows w w']
theorem Gn.later (s : Gn A B) (w : Wf n [] A) (w' : Wf n [] B) : A.later = B.later := by
  unfold LSt.later; rw [s.rows w w']
theorem Gn.run (s : Gn A B) (w : Wf R.lines.length [] A) (w' : Wf R.lines.length [] B) : Gn (A.run R 1) (B.run R 1) := by
  have hf := s.first w w'
  cases e : A.first with
  | none =>
    have e' : B.first = .none := by rw [← hf]; exact e
    rw [run_none e, run_none e']
    exact ⟨s.row, s.yes, s.no, by show A.time + 1 = B.time + 1; rw [s.time]⟩
  | some t =>
    have e' : B.first = .some t := by rw [← hf]; exact e
    obtain ⟨c, c1, c2, _, _, _, c3, c4, c5, c6⟩ := run_some (R := R) (m := 1) w e
    obtain ⟨d, d1, d2, _, _, _, d3, d4, d5, d6⟩ := run_some (R := R) (m := 1) w' e'
    have h1 := s.yes t c c1
    rw [d1] at h1
    cases Option.some.inj h1
    refine ⟨fun j => by rw [c4 j, d4 j, s.row j], fun u x hx => ?_, fun u x hx hy => ?_, by rw [c6, d6, s.time]⟩
    · rw [c3 u] at hx
      rw [d3 u]
      by_cases z : u = t
      · rw [if_pos z] at hx ⊢; exact hx
      · rw [if_neg z] at hx ⊢; exact s.yes u x hx
    · rw [c3 u] at hx
      rw [d3 u] at hy
      by_cases z : u = t
      · rw [if_pos z] at hx; cases hx
      · rw [if_neg z] at hx hy; exact s.no u x hx hy
theorem Gn.wake (s : Gn A B) (w : Wf n [] A) (w' : Wf n [] B) (e : look A.cards t = .some c) : Gn (A.wake R t) (B.wake R t) := by
  have e' := s.yes t c e
  refine ⟨fun j => by rw [row_wake w e, row_wake w' e', s.row j], fun u x hx => ?_, fun u x hx hy => ?_, by rw [time_wake, time_wake, s.time]⟩
  · rw [look_wake e] at hx
    rw [look_wake e']
    by_cases z : u = t
    · rw [if_pos z] at hx ⊢; exact hx
    · rw [if_neg z] at hx ⊢; exact s.yes u x hx
  · rw [look_wake e] at hx
    rw [look_wake e'] at hy
    by_cases z : u = t
    · rw [if_pos z] at hx; cases hx
    · rw [if_neg z] at hx hy; exact s.no u x hx hy
theorem Gn.come (s : Gn A B) (w : Wf n [] A) (w' : Wf n [] B) (hn : 0 < n) (e : look A.cards t = .none) (e' : look B.cards t = .none) : Gn (A.come R t) (B.come R t) := by
  have hr := s.rows w w'
  refine ⟨fun j => by rw [row_come (by rw [w.rl]; exact hn), row_come (by rw [w'.rl]; exact hn), s.row j, s.row 0], fun u x hx => ?_, fun u x hx hy => ?_, by rw [time_come, time_come, s.time]⟩
  · rw [look_come e] at hx
    rw [look_come e', ← hr]
    by_cases z : u = t
    · rw [if_pos z] at hx ⊢; exact hx
    · rw [if_neg z] at hx ⊢; exact s.yes u x hx
  · rw [look_come e] at hx
    rw [look_come e'] at hy
    by_cases z : u = t
    · rw [if_pos z] at hx; cases hx
    · rw [if_neg z] at hx hy; exact s.no u x hx hy
theorem Gn.wait (s : Gn A B) (w : Wf n [] A) (w' : Wf n [] B) (e : look A.cards t = .some c) : Gn (A.wait t) (B.wait t) := by
  have e' := s.yes t c e
  refine ⟨fun j => by rw [row_wait w e, row_wait w' e', s.row j], fun u x hx => ?_, fun u x hx hy => ?_, by rw [time_wait, time_wait, s.time]⟩
  · rw [look_wait] at hx
    rw [look_wait]
    by_cases z : u = t
    · rw [if_pos z, z, e] at hx
      rw [if_pos z, z, e']; exact hx
    · rw [if_neg z] at hx ⊢; exact s.yes u x hx
  · rw [look_wait] at hx
    rw [look_wait] at hy
    by_cases z : u = t
    · rw [if_pos z, z, e] at hx; cases hx
    · rw [if_neg z] at hx hy; exact s.no u x hx hy
/-- gone in the one, waiting in the other -/
theorem Gn.gone (s : Gn A B) (w : Wf n [] A) (w' : Wf n [] B) (e : look A.cards t = .some c) : Gn (A.go t) (B.wait t) := by
  have e' := s.yes t c e
  refine ⟨fun j => by rw [row_go w e, row_wait w' e', s.row j], fun u x hx => ?_, fun u x hx hy => ?_, by rw [time_go, time_wait, s.time]⟩
  · rw [look_go] at hx
    rw [look_wait]
    by_cases z : u = t
    · rw [if_pos z] at hx; cases hx
    · rw [if_neg z] at hx ⊢; exact s.yes u x hx
  · rw [look_go] at hx
    rw [look_wait] at hy
    by_cases z : u = t
    · rw [if_pos z, z, e'] at hy
      rw [← Option.some.inj hy]
    · rw [if_neg z] at hx hy; exact s.no u x hx hy
theorem Gn.boostNow (s : Gn A B) (w : Wf n [] A) (w' : Wf n [] B) (hn : 0 < n) : Gn (A.boostNow R) (B.boostNow R) := by
  have hd : A.due R = B.due R := by unfold LSt.due; rw [s.time]
  have hlt := s.later w w'
  unfold LSt.boostNow
  rw [hd]
  split
  · refine ⟨fun j => by rw [row_boosted (by rw [w.rl]; exact hn), row_boosted (by rw [w'.rl]; exact hn), s.row 0, hlt], fun u x hx => ?_, fun u x hx hy => ?_, by rw [time_boosted, time_boosted, s.time]⟩
    · rw [look_boosted] at hx ⊢
      obtain ⟨c, e, rfl⟩ := Option.map_eq_some_iff.mp hx
      rw [s.yes u c e]
      show some _ = some _
      unfold bst
      rw [hlt]
    · rw [look_boosted] at hx hy
      obtain ⟨c, e, rfl⟩ := Option.map_eq_some_iff.mp hy
      exact s.no u c (Option.map_eq_none_iff.mp hx) e
  · exact s
/-- all that come at a moment -/
theorem Gn.ents (ok : R.Ok) : ∀ {ts : List Int} {A B : LSt}, Gn A B → ts.Nodup → (∀ t ∈ ts, 0 ≤ t ∧ t ≤ 19 ∧ (∀ c, look A.cards t = .some c → c.rdy = false) ∧ (look A.cards t = .none → look B.cards t = .none)) → Wf R.lines.length [] A → Wf R.lines.length [] B →
    Gn (ts.foldl (Ply.enter1 R) A) (ts.foldl (Ply.enter1 R) B) ∧ Wf R.lines.length [] (ts.foldl (Ply.enter1 R) B)
  | [], A, B, s, _, _, _, w' => ⟨s, w'⟩
  | u :: r, A, B, s, nd, h, w, w' => by
    have nd' := List.nodup_cons.mp nd
    obtain ⟨u0, u1, ur, un⟩ := h u List.mem_cons_self
    rw [List.foldl_cons, List.foldl_cons]
    have hone : Gn (Ply.enter1 R A u) (Ply.enter1 R B u) ∧ Wf R.lines.length [] (Ply.enter1 R A u) ∧ Wf R.lines.length [] (Ply.enter1 R B u) := by
      unfold Ply.enter1
      cases e : look A.cards u with
      | some c =>
        have e' := s.yes u c e
        rw [e']
        exact ⟨s.wake w w' e, w.wake e (ur c e), w'.wake e' (ur c e)⟩
      | none =>
        have e' := un e
        rw [e']
        exact ⟨s.come w w' ok.one e e', w.come e ⟨u0, u1⟩ ok.one, w'.come e' ⟨u0, u1⟩ ok.one⟩
    refine Gn.ents ok (ts := r) hone.1 nd'.2 (fun t ht => ?_) hone.2.1 hone.2.2
    have ne : t ∉ [u] := fun z => nd'.1 ((List.mem_singleton.mp z) ▸ ht)
    have e1 : look (Ply.enter1 R A u).cards t = look A.cards t := look_ent (ts := [u]) (R := R) ne
    have e2 : look (Ply.enter1 R B u).cards t = look B.cards t := look_ent (ts := [u]) (R := R) ne
    rw [e1, e2]
    exact h t (List.mem_cons_of_mem _ ht)
/-- the law's lines B, bursts, wakes, beside a play -/
structure LG (R : Rul) (me : Nat) (N : Nat) (q : Ply) (B : LSt) (left : List (List Int)) (lw : List Int) (r : Nat) : Prop where
  gn : Gn q.S B
  wf : Wf R.lines.length [] B
  ll : left.length = me + 1
  lf : ∀ i, i < me → (look q.S.cards i ≠ none ∨ (i : Int) ∈ (q.wk.map Prod.snd).flatten) → left[i]? = q.left[i]?
  lm : left[me]? = some [99 - (r : Int)]
  wl : lw.length = me + 1
  wk : ∀ i, i < me + 1 → ∀ m : Int, N ≤ m → m < 500 → ((i : Int) ∈ getW q.wk m ↔ lw[i]? = some m)
  wt : ∀ t, t ∈ (q.wk.map Prod.snd).flatten → look q.S.cards t = none → look B.cards t = none
/-- behind what comes at the moment -/
structure LE (R : Rul) (me : Nat) (N : Nat) (q : Ply) (B : LSt) (left : List (List Int)) (lw : List Int) (r : Nat) : Prop where
  gn : Gn q.S B
  wf : Wf R.lines.length [] B
  ll : left.length = me + 1
  lf : ∀ i, i < me → (look q.S.cards i ≠ none ∨ (i : Int) ∈ (q.wk.map Prod.snd).flatten) → left[i]? = q.left[i]?
  lm : left[me]? = some [99 - (r : Int)]
  wl : lw.length = me + 1
  wk : ∀ i, i < me + 1 → ∀ m : Int, (N : Int) + 1 ≤ m → m < 500 → ((i : Int) ∈ getW q.wk m ↔ lw[i]? = some m)
  wt : ∀ t, t ∈ (q.wk.map Prod.snd).flatten → look q.S.cards t = none → look B.cards t = none
theorem LG.inNow {q : Ply} {left : List (List Int)} {lw : List Int} (g : LG R me N q B left lw r) (h : PInv R (me + 1) q N) (hN : N < 500) : inNow lw N (me + 1) = sortI (getW q.wk N) := by
  refine sortI_uniq ?_ ?_
  · refine List.Pairwise.map _ (fun a b (q : a ≤ b) => Int.ofNat_le.mpr q) ?_
    exact (List.pairwise_lt_range.filter _).imp Nat.le_of_lt
  · refine (List.perm_ext_iff_of_nodup inNow_nodup (h.enOk N).nd).mpr fun t => ⟨fun ht => ?_, fun ht => ?_⟩
    · obtain ⟨i, hi, rfl⟩ := List.mem_map.mp ht
      obtain ⟨h1, h2⟩ := List.mem_filter.mp hi
      have h1 := List.mem_range.mp h1
      refine (g.wk i h1 N (Int.le_refl _) (by omega)).mpr ?_
      have h3 : i < lw.length := by rw [g.wl]; exact h1
      have h4 := of_decide_eq_true h2
      rw [List.getD_eq_getElem?_getD, List.getElem?_eq_getElem h3] at h4
      rw [List.getElem?_eq_getElem h3]
      exact congrArg some h4
    · have pm := getW_flat (m := (N : Int)) h.kn
      obtain ⟨t0, t1, _⟩ := h.wt t (pm.mem_iff.mpr (List.mem_append_left _ ht))
      obtain ⟨i, rfl⟩ := Int.eq_ofNat_of_zero_le t0
      have hi : i < me + 1 := by omega
      have := (g.wk i hi N (Int.le_refl _) (by omega)).mp ht
      refine List.mem_map.mpr ⟨i, List.mem_filter.mpr ⟨List.mem_range.mpr hi, ?_⟩, rfl⟩
      rw [List.getD_eq_getElem?_getD, this]
      simp
theorem LG.enter {q : Ply} {left : List (List Int)} {lw : List Int} (g : LG R me N q B left lw r) (h : PInv R (me + 1) q N) (ok : R.Ok) : LE R me N (q.enter R N) ((sortI (getW q.wk N)).foldl (Ply.enter1 R) B) left lw r := by
  have eo := h.enOk N
  have pm := getW_flat (m := (N : Int)) h.kn
  have nd := pm.nodup_iff.mp h.wn
  have sp := sortI_perm (getW q.wk N)
  have ndS := sp.nodup_iff.mpr eo.nd
  have inF : ∀ t, t ∈ getW q.wk N → t ∈ (q.wk.map Prod.snd).flatten := fun t ht => pm.mem_iff.mpr (List.mem_append_left _ ht)
  have inD : ∀ t, t ∈ ((delW q.wk N).map Prod.snd).flatten → t ∈ (q.wk.map Prod.snd).flatten := fun t ht => pm.mem_iff.mpr (List.mem_append_right _ ht)
  have dis : ∀ t, t ∈ ((delW q.wk N).map Prod.snd).flatten → t ∉ sortI (getW q.wk N) := fun t ht z => (List.nodup_append.mp nd).2.2 t (sp.mem_iff.mp z) t ht rfl
  obtain ⟨g1, g2⟩ := Gn.ents ok g.gn ndS (fun t ht => by
    have ht' := sp.mem_iff.mp ht
    obtain ⟨a1, a2, a3⟩ := eo.ok t ht'
    exact ⟨a1, a2, a3, g.wt t (inF t ht')⟩) h.wf g.wf
  refine ⟨g1, g2, g.ll, fun i hi o => g.lf i hi ?_, g.lm, g.wl, fun i hi m h1 h2 => ?_, fun t ht e => ?_⟩
  · rcases o with o | o
    · by_cases z : (i : Int) ∈ sortI (getW q.wk N)
      · exact .inr (inF _ (sp.mem_iff.mp z))
      · have e2 : look ((sortI (getW q.wk N)).foldl (Ply.enter1 R) q.S).cards i = look q.S.cards i := look_ent z
        exact .inl (e2 ▸ o)
    · exact .inr (inD _ o)
  · show (i : Int) ∈ getW (delW q.wk N) m ↔ _
    rw [getW_del (by omega)]
    exact g.wk i hi m (by omega) h2
  · have e1 : look ((sortI (getW q.wk N)).foldl (Ply.enter1 R) q.S).cards t = look q.S.cards t := look_ent (dis t ht)
    have e2 : look ((sortI (getW q.wk N)).foldl (Ply.enter1 R) B).cards t = look B.cards t := look_ent (dis t ht)
    rw [e2]
    exact g.wt t (inD t ht) (e1.symm.trans e)
/-- a boost -/
theorem LE.boost {q : Ply} {left : List (List Int)} {lw : List Int} (g : LE R me N q B left lw r) (w : Wf R.lines.length [] q.S) (ok : R.Ok) : LE R me N (q.boost R) (B.boostNow R) left lw r := by
  have lk : ∀ (S : LSt) u, look (S.boostNow R).cards u = none ↔ look S.cards u = none := fun S u => by
    unfold LSt.boostNow
    split
    · rw [look_boosted]; simp
    · exact Iff.rfl
  refine ⟨g.gn.boostNow w g.wf ok.one, g.wf.boostNow' ok.one, g.ll, fun i hi o => g.lf i hi (o.imp (fun z y => z ((lk _ _).mpr y)) id), g.lm, g.wl, g.wk, fun t ht e => (lk _ _).mpr (g.wt t ht ((lk _ _).mp e))⟩
theorem run_look (w : Wf R.lines.length [] S) : ∀ u, look (S.run R 1).cards u = none ↔ look S.cards u = none := fun u => by
  cases f : S.first with
  | none => rw [run_none f]
  | some t =>
    obtain ⟨c0, c1, c2, _, _, _, c3, _⟩ := run_some (R := R) (m := 1) w f
    rw [c3]
    by_cases z : u = t
    · rw [if_pos z, z, c1]; simp
    · rw [if_neg z]
/-- nobody runs -/
theorem LE.none {q : Ply} {left : List (List Int)} {lw : List Int} (g : LE R me N q B left lw r) (w : Wf R.lines.length [] q.S) (ok : R.Ok) (f : q.S.first = none) : LG R me (N + 1) (q.runTo R N (N + 1)) (B.run R 1) left lw r := by
  rw [runTo_none f]
  refine ⟨g.gn.run w g.wf, g.wf.run ok.one, g.ll, fun i hi o => g.lf i hi (o.imp (fun z y => z ((run_look w _).mpr y)) id), g.lm, g.wl, fun i hi m h1 h2 => g.wk i hi m (by omega) h2, fun t ht e => (run_look g.wf _).mpr (g.wt t ht ((run_look w _).mp e))⟩

/-- i runs -/
structure RunsI (R : Rul) (me N : Nat) (q : Ply) (B : LSt) (left : List (List Int)) (lw : List Int) (r : Nat) (i : Nat) (x : Int) (r0 : List Int) (c : Card) : Prop where
  g : LE R me N q B left lw r
  iv : PInv R (me + 1) q N
  f : q.S.first = some (i : Int)
  hx : q.left[i]? = some (x :: r0)
  c1 : look (B.run R 1).cards i = some c
  c2 : c.rdy = true
  c3 : look (q.S.run R 1).cards i = some c
  nw : (i : Int) ∉ (q.wk.map Prod.snd).flatten
  x1 : 1 ≤ x
theorem RunsI.mk' {q : Ply} {left : List (List Int)} {lw : List Int} (g : LE R me N q B left lw r) (iv : PInv R (me + 1) q N) (f : q.S.first = some t) : ∃ i x r0 c, t = ((i : Nat) : Int) ∧ i < me + 1 ∧ RunsI R me N q B left lw r i x r0 c := by
  obtain ⟨i, xs, rfl, hx, ho, _, hk⟩ := iv.runOk t f
  obtain ⟨c0, k1, k2, _, _, _, k3, _⟩ := run_some (R := R) (m := 1) iv.wf f
  have f' : B.first = some (i : Int) := by rw [← g.gn.first iv.wf g.wf]; exact f
  have gr := g.gn.run (R := R) iv.wf g.wf
  have h3 : look (q.S.run R 1).cards i = some (chg R R.lines.length c0 1) := by rw [k3, if_pos rfl]
  cases xs with
  | nil => simp at ho
  | cons x r0 =>
    refine ⟨i, x, r0, _, rfl, by rw [iv.ne] at hk; exact hk, g, iv, f, hx, gr.yes _ _ h3, k2, h3, fun z => ?_, iv.lp i _ hx (.inr (by rw [k1]; simp)) x List.mem_cons_self⟩
    have := (iv.wt _ z).2.2 c0 k1
    rw [this] at k2; cases k2
section
variable {q : Ply} {left : List (List Int)} {lw : List Int} {i : Nat} {x w : Int} {r0 r1 : List Int}
theorem RunsI.left_i (h : RunsI R me N q B left lw r i x r0 c) (hi : i < me) : left[i]? = some (x :: r0) := by
  obtain ⟨c0, k1, _⟩ := run_some (R := R) (m := 1) h.iv.wf h.f
  rw [h.g.lf i hi (.inl (by rw [k1]; simp))]
  exact h.hx
theorem RunsI.alive (h : RunsI R me N q B left lw r i x r0 c) {j : Nat} (o : look (q.S.run R 1).cards j ≠ none ∨ (j : Int) ∈ (q.wk.map Prod.snd).flatten) : look q.S.cards j ≠ none ∨ (j : Int) ∈ (q.wk.map Prod.snd).flatten := o.imp (fun z y => z ((run_look h.iv.wf _).mpr y)) id
theorem RunsI.runs (h : RunsI R me N q B left lw r i x r0 c) (ok : R.Ok) : Gn (q.S.run R 1) (B.run R 1) ∧ Wf R.lines.length [] (q.S.run R 1) ∧ Wf R.lines.length [] (B.run R 1) := ⟨h.g.gn.run h.iv.wf h.g.wf, h.iv.wf.run ok.one, h.g.wf.run ok.one⟩
/-- more is left -/
theorem RunsI.more (h : RunsI R me N q B left lw r i x r0 c) (ok : R.Ok) (hi : i < me) (z : x - 1 ≠ 0) : LG R me (N + 1) (q.runTo R N (N + 1)) (B.run R 1) (left.set i ((x - 1) :: r0)) lw r := by
  obtain ⟨a1, a2, a3⟩ := h.runs ok
  have hil : i < left.length := by rw [h.g.ll]; omega
  have hiq : i < q.left.length := (List.getElem?_eq_some_iff.mp h.hx).1
  rw [runTo_more h.f h.hx z]
  refine ⟨a1, a3, by rw [List.length_set]; exact h.g.ll, fun j hj o => ?_, by rw [List.getElem?_set_ne (by omega)]; exact h.g.lm, h.g.wl, fun j hj m h1 h2 => h.g.wk j hj m (by omega) h2, fun t ht e => (run_look h.g.wf _).mpr (h.g.wt t ht ((run_look h.iv.wf _).mp e))⟩
  show (left.set i _)[j]? = (q.left.set i _)[j]?
  rw [List.getElem?_set, List.getElem?_set]
  by_cases y : i = j
  · rw [if_pos y, if_pos y, if_pos hil, if_pos hiq]
  · rw [if_neg y, if_neg y]; exact h.g.lf j hj (h.alive o)
/-- the last run is over -/
theorem RunsI.done (h : RunsI R me N q B left lw r i x [] c) (ok : R.Ok) (hi : i < me) (z : x - 1 = 0) (hN : N < 400) : LG R me (N + 1) (q.runTo R N (N + 1)) ((B.run R 1).wait i) (left.set i []) (lw.set i ((N : Int) + 1 + 999)) r := by
  obtain ⟨a1, a2, a3⟩ := h.runs ok
  rw [runTo_end h.f h.hx z]
  have hil : i < lw.length := by rw [h.g.wl]; omega
  refine ⟨a1.gone a2 a3 h.c3, a3.wait h.c1, by rw [List.length_set]; exact h.g.ll, fun j hj o => ?_, by rw [List.getElem?_set_ne (by omega)]; exact h.g.lm, by rw [List.length_set]; exact h.g.wl, fun j hj m h1 h2 => ?_, fun t ht e => ?_⟩
  · have hij : i ≠ j := fun y => by
      subst y
      rcases o with o | o
      · refine o ?_
        show look ((q.S.run R 1).go i).cards i = none
        rw [look_go, if_pos rfl]
      · exact h.nw o
    show (left.set i _)[j]? = (q.left.set i _)[j]?
    rw [List.getElem?_set_ne hij, List.getElem?_set_ne hij]
    refine h.g.lf j hj (h.alive (o.imp (fun y y2 => y ?_) id))
    show look ((q.S.run R 1).go i).cards j = none
    rw [look_go, if_neg (by omega)]; exact y2
  · rw [List.getElem?_set]
    by_cases y : i = j
    · subst y
      rw [if_pos rfl, if_pos hil]
      constructor
      · intro y2
        exact absurd (List.mem_flatten.mpr ⟨_, List.mem_map.mpr ⟨(m, getW q.wk m), getW_mem rfl (List.ne_nil_of_mem y2), rfl⟩, y2⟩) h.nw
      · intro y2
        have := Option.some.inj y2
        omega
    · rw [if_neg y]; exact h.g.wk j hj m (by omega) h2
  · have ht' : t ∈ (q.wk.map Prod.snd).flatten := ht
    have hit : t ≠ i := fun y => h.nw (y ▸ ht')
    have e' : look ((q.S.run R 1).go i).cards t = none := e
    rw [look_go, if_neg hit] at e'
    rw [look_wait, if_neg hit]
    exact (run_look h.g.wf _).mpr (h.g.wt t ht' ((run_look h.iv.wf _).mp e'))
/-- a run is over, others are to come -/
theorem RunsI.over (h : RunsI R me N q B left lw r i x (w :: r1) c) (ok : R.Ok) (hi : i < me) (z : x - 1 = 0) (w0 : 0 ≤ w) : LG R me (N + 1) (q.runTo R N (N + 1)) ((B.run R 1).wait i) (left.set i r1) (lw.set i ((N : Int) + 1 + w)) r := by
  obtain ⟨a1, a2, a3⟩ := h.runs ok
  rw [runTo_wait h.f h.hx z]
  have hil : i < lw.length := by rw [h.g.wl]; omega
  have hll : i < left.length := by rw [h.g.ll]; omega
  have hiq : i < q.left.length := (List.getElem?_eq_some_iff.mp h.hx).1
  have pf := addW_flat (wk := q.wk) (m := (N : Int) + 1 + w) (t := (i : Int))
  refine ⟨a1.wait a2 a3 h.c3, a3.wait h.c1, by rw [List.length_set]; exact h.g.ll, fun j hj o => ?_, by rw [List.getElem?_set_ne (by omega)]; exact h.g.lm, by rw [List.length_set]; exact h.g.wl, fun j hj m h1 h2 => ?_, fun t ht e => ?_⟩
  · show (left.set i _)[j]? = (q.left.set i _)[j]?
    rw [List.getElem?_set, List.getElem?_set]
    by_cases y : i = j
    · rw [if_pos y, if_pos y, if_pos hll, if_pos hiq]
    · rw [if_neg y, if_neg y]
      refine h.g.lf j hj (h.alive ?_)
      rcases o with o | o
      · refine .inl fun y2 => o ?_
        show look ((q.S.run R 1).wait i).cards j = none
        rw [look_wait, if_neg (by omega)]; exact y2
      · have o' : (j : Int) ∈ ((addW q.wk ((N : Int) + 1 + w) i).map Prod.snd).flatten := o
        rcases List.mem_cons.mp (pf.mem_iff.mp o') with y2 | y2
        · omega
        · exact .inr y2
  · have nW : ∀ m, (i : Int) ∉ getW q.wk m := fun m y2 => h.nw (List.mem_flatten.mpr ⟨_, List.mem_map.mpr ⟨(m, getW q.wk m), getW_mem rfl (List.ne_nil_of_mem y2), rfl⟩, y2⟩)
    show (j : Int) ∈ getW (addW q.wk ((N : Int) + 1 + w) i) m ↔ _
    rw [getW_add, List.getElem?_set]
    by_cases y : i = j
    · subst y
      rw [if_pos rfl, if_pos hil]
      by_cases e : m = (N : Int) + 1 + w
      · rw [if_pos e, e]; simp
      · rw [if_neg e]
        exact ⟨fun y2 => absurd y2 (nW m), fun y2 => absurd (Option.some.inj y2).symm e⟩
    · rw [if_neg y]
      by_cases e : m = (N : Int) + 1 + w
      · rw [if_pos e, List.mem_append, ← e]
        refine ⟨fun y2 => ?_, fun y2 => .inl ((h.g.wk j hj m (by omega) h2).mpr y2)⟩
        rcases y2 with y2 | y2
        · exact (h.g.wk j hj m (by omega) h2).mp y2
        · have := List.mem_singleton.mp y2; omega
      · rw [if_neg e]; exact h.g.wk j hj m (by omega) h2
  · have ht' := pf.mem_iff.mp ht
    have e' : look ((q.S.run R 1).wait i).cards t = none := e
    have hit : t ≠ i := fun y => by
      rw [look_wait, if_pos y, y, h.c3] at e'; cases e'
    rw [look_wait, if_neg hit] at e'
    rw [look_wait, if_neg hit]
    rcases List.mem_cons.mp ht' with y | y
    · exact absurd y hit
    · exact (run_look h.g.wf _).mpr (h.g.wt t y ((run_look h.iv.wf _).mp e'))
/-- it itself runs -/
theorem RunsI.mine (h : RunsI R me N q B left lw r me x [] c) (ok : R.Ok) (z : x - 1 ≠ 0) : LG R me (N + 1) (q.runTo R N (N + 1)) (B.run R 1) (left.set me [99 - (r : Int) - 1]) lw (r + 1) := by
  obtain ⟨a1, a2, a3⟩ := h.runs ok
  have hil : me < left.length := by rw [h.g.ll]; omega
  rw [runTo_more h.f h.hx z]
  refine ⟨a1, a3, by rw [List.length_set]; exact h.g.ll, fun j hj o => ?_, ?_, h.g.wl, fun j hj m h1 h2 => h.g.wk j hj m (by omega) h2, fun t ht e => (run_look h.g.wf _).mpr (h.g.wt t ht ((run_look h.iv.wf _).mp e))⟩
  · show (left.set me _)[j]? = (q.left.set me _)[j]?
    rw [List.getElem?_set_ne (by omega), List.getElem?_set_ne (by omega)]
    exact h.g.lf j hj (h.alive o)
  · rw [List.getElem?_set_self hil]
    congr 2; omega
/-- it gives up -/
theorem RunsI.up (h : RunsI R me N q B left lw r me x [] c) (ok : R.Ok) (z : x - 1 ≠ 0) : LG R me (N + 1) ((q.runTo R N (N + 1)).giveUp me N) ((B.run R 1).wait me) (left.set me [99 - (r : Int) - 1]) (lw.set me ((N : Int) + 2)) (r + 1) := by
  obtain ⟨a1, a2, a3⟩ := h.runs ok
  have hil : me < left.length := by rw [h.g.ll]; omega
  have hwl : me < lw.length := by rw [h.g.wl]; omega
  rw [runTo_more h.f h.hx z]
  have pf := addW_flat (wk := q.wk) (m := (N : Int) + 2) (t := (me : Int))
  refine ⟨a1.wait a2 a3 h.c3, a3.wait h.c1, by rw [List.length_set]; exact h.g.ll, fun j hj o => ?_, ?_, by rw [List.length_set]; exact h.g.wl, fun j hj m h1 h2 => ?_, fun t ht e => ?_⟩
  · show (left.set me _)[j]? = (q.left.set me _)[j]?
    rw [List.getElem?_set_ne (by omega), List.getElem?_set_ne (by omega)]
    refine h.g.lf j hj (h.alive ?_)
    rcases o with o | o
    · refine .inl fun y2 => o ?_
      show look ((q.S.run R 1).wait me).cards j = none
      rw [look_wait, if_neg (by omega)]; exact y2
    · have o' : (j : Int) ∈ ((addW q.wk ((N : Int) + 2) me).map Prod.snd).flatten := o
      rcases List.mem_cons.mp (pf.mem_iff.mp o') with y2 | y2
      · omega
      · exact .inr y2
  · rw [List.getElem?_set_self hil]
    congr 2; omega
  · have nW : ∀ m, (me : Int) ∉ getW q.wk m := fun m y2 => h.nw (List.mem_flatten.mpr ⟨_, List.mem_map.mpr ⟨(m, getW q.wk m), getW_mem rfl (List.ne_nil_of_mem y2), rfl⟩, y2⟩)
    show (j : Int) ∈ getW (addW q.wk ((N : Int) + 2) me) m ↔ _
    rw [getW_add, List.getElem?_set]
    by_cases y : me = j
    · subst y
      rw [if_pos rfl, if_pos hwl]
      by_cases e : m = (N : Int) + 2
      · rw [if_pos e, e]; simp
      · rw [if_neg e]
        exact ⟨fun y2 => absurd y2 (nW m), fun y2 => absurd (Option.some.inj y2).symm e⟩
    · rw [if_neg y]
      by_cases e : m = (N : Int) + 2
      · rw [if_pos e, List.mem_append, ← e]
        refine ⟨fun y2 => ?_, fun y2 => .inl ((h.g.wk j hj m (by omega) h2).mpr y2)⟩
        rcases y2 with y2 | y2
        · exact (h.g.wk j hj m (by omega) h2).mp y2
        · have := List.mem_singleton.mp y2; omega
      · rw [if_neg e]; exact h.g.wk j hj m (by omega) h2
  · have ht' := pf.mem_iff.mp ht
    have e' : look ((q.S.run R 1).wait me).cards t = none := e
    have hit : t ≠ me := fun y => by
      rw [look_wait, if_pos y, y, h.c3] at e'; cases e'
    rw [look_wait, if_neg hit] at e'
    rw [look_wait, if_neg hit]
    rcases List.mem_cons.mp ht' with y | y
    · exact absurd y hit
    · exact (run_look h.g.wf _).mpr (h.g.wt t y ((run_look h.iv.wf _).mp e'))
end
theorem LG.begin {ts : List (Int × List Int)} {x0 : Int} (ok : R.Ok) (h : ∀ x ∈ ts, 0 ≤ x.1) (S : LSt) (w : Wf R.lines.length [] S) (hc : S.cards = []) : LG R ts.length 0 (Ply.begin S (ts ++ [(0, [x0])])) S (ts.map Prod.snd ++ [[99]]) (ts.map Prod.fst ++ [0]) 0 := by
  have hw := WkR.begin (ts := ts ++ [((0 : Int), [x0])]) (S := S) fun x hx => by
    rcases List.mem_append.mp hx with y | y
    · exact h x y
    · rw [List.mem_singleton.mp y]; exact Int.le_refl _
  rw [List.map_append] at hw
  refine ⟨⟨fun _ => rfl, fun _ _ e => e, fun t c e e' => (by rw [show look S.cards t = none by rw [hc]; rfl] at e'; cases e'), rfl⟩, w, by simp, fun i hi _ => ?_, ?_, by simp, fun i hi m h1 h2 => ?_, fun t _ e => e⟩
  · show _ = ((ts ++ [((0 : Int), [x0])]).map (·.2))[i]?
    rw [List.map_append, List.getElem?_append_left (by simpa using hi), List.getElem?_append_left (by simpa using hi)]
  · rw [List.getElem?_append_right (by simp)]; simp
  · exact hw.iff i (by simp; omega) m h1
end
end Qn

/-! M26: games: how long the one more's burst is tells nothing; longer spans; nobody else there. -/
namespace Qn
open PySem L2
/-- the same, but for one task's burst -/
structure But (me : Nat) (x y : Int) (q p : Ply) : Prop where
  S : p.S = q.S
  wk : p.wk = q.wk
  found : p.found = q.found
  ends : p.ends = q.ends
  lx : q.left[me]? = some [x]
  left : p.left = q.left.set me [y]
section
variable {R : Rul} {me n k r : Nat} {x y now : Int} {q p P P' : Ply} {S : LSt} {ts : List (Int × List Int)} {mv : List Int}
theorem But.tick (b : But me x y q p) (iv : PInv R k q now) (ok : R.Ok) (hx : 2 ≤ x) (hy : 2 ≤ y) : p.whoM R now = q.whoM R now ∧
    But me (if q.whoM R now = some (me : Int) then x - 1 else x) (if q.whoM R now = some (me : Int) then y - 1 else y) (q.tick R now) (p.tick R now) := by
  have im := (iv.enter ok).1.boost ok
  have b1 : But me x y ((q.enter R now).boost R) ((p.enter R now).boost R) := by
    refine ⟨?_, ?_, b.found, b.ends, b.lx, b.left⟩
    · show ((sortI (getW p.wk now)).foldl (Ply.enter1 R) p.S).boostNow R = _
      rw [b.wk, b.S]; rfl
    · show delW p.wk now = delW q.wk now
      rw [b.wk]
  have hw : p.whoM R now = q.whoM R now := by unfold Ply.whoM; rw [b1.S]
  refine ⟨hw, ?_⟩
  have hq : q.whoM R now = ((q.enter R now).boost R).S.first := rfl
  have e1 : q.tick R now = ((q.enter R now).boost R).runTo R now (now + 1) := rfl
  have e2 : p.tick R now = ((p.enter R now).boost R).runTo R now (now + 1) := rfl
  rw [e1, e2, hq]
  generalize (q.enter R now).boost R = a at im b1
  generalize (p.enter R now).boost R = c at b1
  have hal : me < a.left.length := (List.getElem?_eq_some_iff.mp b1.lx).1
  have hself : c.left[me]? = some [y] := by rw [b1.left, List.getElem?_set_self hal]
  cases f : a.S.first with
  | none =>
    have f' : c.S.first = none := by rw [b1.S]; exact f
    rw [runTo_none f, runTo_none f', if_neg (by simp), if_neg (by simp)]
    exact ⟨by show c.S.run R 1 = a.S.run R 1; rw [b1.S], b1.wk, b1.found, b1.ends, b1.lx, b1.left⟩
  | some t =>
    obtain ⟨i, xs, rfl, hxs, ho, _, hk⟩ := im.runOk t f
    have f' : c.S.first = some (i : Int) := by rw [b1.S]; exact f
    by_cases him : i = me
    · subst him
      rw [if_pos rfl, if_pos rfl, runTo_more f b1.lx (by omega), runTo_more f' hself (by omega)]
      refine ⟨by show c.S.run R 1 = a.S.run R 1; rw [b1.S], b1.wk, ?_, b1.ends, ?_, ?_⟩
      · show joinF c.found now (now + 1) i (c.S.card i).line = _
        rw [b1.found, b1.S]
      · show (a.left.set i [x - 1])[i]? = _
        rw [List.getElem?_set_self hal]
      · show c.left.set i [y - 1] = (a.left.set i [x - 1]).set i [y - 1]
        rw [b1.left, List.set_set, List.set_set]
    · have hne : ¬ (some ((i : Nat) : Int)) = some (me : Int) := fun z => him (by have := Option.some.inj z; omega)
      rw [if_neg hne, if_neg hne]
      have hxs' : c.left[i]? = some xs := by rw [b1.left, List.getElem?_set_ne (Ne.symm him)]; exact hxs
      have hset : ∀ v : List Int, c.left.set i v = (a.left.set i v).set me [y] := fun v => by rw [b1.left, List.set_comm _ _ (Ne.symm him)]
      have hlx : ∀ v : List Int, (a.left.set i v)[me]? = some [x] := fun v => by rw [List.getElem?_set_ne him]; exact b1.lx
      have hj : joinF c.found now (now + 1) i (c.S.card i).line = joinF a.found now (now + 1) i (a.S.card i).line := by rw [b1.found, b1.S]
      cases xs with
      | nil => simp at ho
      | cons z r0 =>
        by_cases hz : z - 1 = 0
        · cases r0 with
          | nil =>
            rw [runTo_end f hxs hz, runTo_end f' hxs' hz]
            exact ⟨by dsimp only; rw [b1.S], b1.wk, hj, by dsimp only; rw [b1.ends], hlx _, hset _⟩
          | cons w r1 =>
            rw [runTo_wait f hxs hz, runTo_wait f' hxs' hz]
            exact ⟨by dsimp only; rw [b1.S], by dsimp only; rw [b1.wk], hj, b1.ends, hlx _, hset _⟩
        · rw [runTo_more f hxs hz, runTo_more f' hxs' hz]
          exact ⟨by dsimp only; rw [b1.S], b1.wk, hj, b1.ends, hlx _, hset _⟩
theorem But.up (b : But me x y q p) : But me x y (q.giveUp me now) (p.giveUp me now) := ⟨by show p.S.wait me = q.S.wait me; rw [b.S], by show addW p.wk _ _ = addW q.wk _ _; rw [b.wk], b.found, b.ends, b.lx, b.left⟩
theorem But.play {x0 y0 : Int} (g : GI R me x0 0 P 0) (g' : GI R me y0 0 P' 0) (b : But me x0 y0 P P') (ok : R.Ok) : ∀ n : Nat, (n : Int) + 1 ≤ x0 → (n : Int) + 1 ≤ y0 →
    (P.gplay R me mv n = none ∧ P'.gplay R me mv n = none) ∨ ∃ q p r, P.gplay R me mv n = some (q, r) ∧ P'.gplay R me mv n = some (p, r) ∧ But me (x0 - (r : Int)) (y0 - (r : Int)) q p
  | 0, _, _ => .inr ⟨P, P', 0, rfl, rfl, by simpa using b⟩
  | n + 1, hx, hy => by
    rcases But.play g g' b ok n (by omega) (by omega) with ⟨h1, h2⟩ | ⟨q, p, r, h1, h2, h3⟩
    · exact .inl ⟨by unfold Ply.gplay; rw [h1], by unfold Ply.gplay; rw [h2]⟩
    · have gi := g.play ok n (by omega) h1
      have rn := gi.rn
      obtain ⟨hw, ht⟩ := h3.tick gi.iv ok (by omega) (by omega)
      have e1 : P.gplay R me mv (n + 1) = if q.whoM R n = some (me : Int) then some (if (n : Int) ∈ mv then (q.tick R n).giveUp me n else q.tick R n, r + 1) else if (n : Int) ∈ mv then none else some (q.tick R n, r) := by
        show (match P.gplay R me mv n with | none => none | some (q, r) => _) = _
        rw [h1]
      have e2 : P'.gplay R me mv (n + 1) = if p.whoM R n = some (me : Int) then some (if (n : Int) ∈ mv then (p.tick R n).giveUp me n else p.tick R n, r + 1) else if (n : Int) ∈ mv then none else some (p.tick R n, r) := by
        show (match P'.gplay R me mv n with | none => none | some (q, r) => _) = _
        rw [h2]
      rw [e1, e2, hw]
      by_cases c : q.whoM R n = some (me : Int)
      · rw [if_pos c, if_pos c] at ht
        rw [if_pos c, if_pos c]
        have ex : x0 - (r : Int) - 1 = x0 - ((r + 1 : Nat) : Int) := by omega
        have ey : y0 - (r : Int) - 1 = y0 - ((r + 1 : Nat) : Int) := by omega
        rw [ex, ey] at ht
        by_cases d : (n : Int) ∈ mv
        · rw [if_pos d, if_pos d]; exact .inr ⟨_, _, _, rfl, rfl, ht.up⟩
        · rw [if_neg d, if_neg d]; exact .inr ⟨_, _, _, rfl, rfl, ht⟩
      · rw [if_neg c, if_neg c] at ht
        rw [if_neg c, if_neg c]
        by_cases d : (n : Int) ∈ mv
        · rw [if_pos d, if_pos d]; exact .inl ⟨rfl, rfl⟩
        · rw [if_neg d, if_neg d]; exact .inr ⟨_, _, _, rfl, rfl, ht⟩
theorem GI.of_tasks {x0 : Int} (w : Wf R.lines.length [] S) (hc : S.cards = []) (tok : TasksOk ts) (h11 : ts.length ≤ 11) (hx : 1 ≤ x0 ∧ x0 ≤ 40) : GI R ts.length x0 0 (Ply.begin S (ts ++ [(0, [x0])])) 0 := by
  have tok1 : TasksOk (ts ++ [((0 : Int), [x0])]) := ⟨by simp; omega, fun x hx' => by
    rcases List.mem_append.mp hx' with y | y
    · exact tok.2 x y
    · rw [List.mem_singleton.mp y]
      exact ⟨Int.le_refl _, by show (0 : Int) ≤ 400; decide, (⟨rfl, by show 1 ≤ 9; decide, fun z hz => by rw [List.mem_singleton.mp hz]; omega⟩ : BurOk [x0])⟩⟩
  have iv0 := PInv.begin (R := R) (S := S) (ts := ts ++ [(0, [x0])]) w hc tok1
  refine GI.start ?_ ?_ rfl
  · rw [show (ts ++ [((0 : Int), [x0])]).length = ts.length + 1 by simp] at iv0; exact iv0
  · show ((ts ++ [((0 : Int), [x0])]).map (·.2))[ts.length]? = _
    simp
/-- how long its burst is, tells nothing -/
theorem gameF_any {x0 y0 : Int} (w : Wf R.lines.length [] S) (hc : S.cards = []) (ok : R.Ok) (tok : TasksOk ts) (h11 : ts.length ≤ 11) (hx : (n : Int) + 1 ≤ x0 ∧ x0 ≤ 40) (hy : (n : Int) + 1 ≤ y0 ∧ y0 ≤ 40) : gameF R S ts x0 n mv = gameF R S ts y0 n mv := by
  have g := GI.of_tasks (x0 := x0) w hc tok h11 (by omega)
  have g' := GI.of_tasks (x0 := y0) w hc tok h11 (by omega)
  have b : But ts.length x0 y0 (Ply.begin S (ts ++ [(0, [x0])])) (Ply.begin S (ts ++ [(0, [y0])])) := by
    refine ⟨rfl, ?_, rfl, ?_, g.left.trans (by simp), ?_⟩
    · show ((ts ++ [((0 : Int), [y0])]).zipIdx).foldl (fun w x => addW w x.1.1 (x.2 : Nat)) [] = ((ts ++ [((0 : Int), [x0])]).zipIdx).foldl (fun w x => addW w x.1.1 (x.2 : Nat)) []
      rw [List.zipIdx_append, List.zipIdx_append, List.foldl_append, List.foldl_append]; rfl
    · show (ts ++ [((0 : Int), [y0])]).map (fun _ => none) = (ts ++ [((0 : Int), [x0])]).map fun _ => none
      rw [List.map_append, List.map_append]; rfl
    · show (ts ++ [((0 : Int), [y0])]).map (·.2) = ((ts ++ [((0 : Int), [x0])]).map (·.2)).set ts.length [y0]
      rw [List.map_append, List.map_append, List.set_append_right _ _ (by simp)]
      simp
  unfold gameF
  rcases But.play (mv := mv) g g' b ok n hx.1 hy.1 with ⟨h1, h2⟩ | ⟨q, p, r, h1, h2, _⟩
  · rw [h1, h2]
  · rw [h1, h2]; rfl
/-- one moment more -/
theorem longer {x0 : Int} {b L : Nat} {m m' : List Int} (h : Best (gameF R S ts x0 n) n b m) (h' : Best (gameF R S ts x0 (n + 1)) (n + 1) L m') : b ≤ L ∧ L ≤ b + 1 := by
  have hle : ∀ {f : List Int → Option Nat} {sp b : Nat} {m z : List Int} {r : Nat}, Best f sp b m → Mv sp z → f z = some r → r ≤ b := fun {f sp b m z r} hb hz hf => by
    have := hb.most z r hz hf
    unfold ahead at this
    split at this
    · omega
    · have := of_decide_eq_false this; omega
  constructor
  · have hf := h.fm
    unfold gameF at hf
    cases e : (Ply.begin S (ts ++ [(0, [x0])])).gplay R ts.length m n with
    | none => rw [e] at hf; cases hf
    | some z =>
      rw [e] at hf
      have hz : z.2 = b := Option.some.inj hf
      obtain ⟨z', e1, e2, e3⟩ := gplay_on e (m := n + 1) (fun j h1 h2 h3 => by have := (h.mv.bd _ h3).2; omega) (by omega)
      have := hle h' ⟨h.mv.up, fun x hx => by have := h.mv.bd x hx; omega⟩ (show gameF R S ts x0 (n + 1) m = some z'.2 by unfold gameF; rw [e1]; rfl)
      omega
  · have hf := h'.fm
    unfold gameF at hf
    cases e0 : (Ply.begin S (ts ++ [(0, [x0])])).gplay R ts.length m' n with
    | none => rw [gplay_none e0 (by omega)] at hf; cases hf
    | some z =>
      have e1 : (Ply.begin S (ts ++ [(0, [x0])])).gplay R ts.length (m'.filter fun x => decide (x < (n : Int))) n = some z := by
        rw [← e0]
        refine gplay_same n fun j hj => ?_
        rw [List.mem_filter]
        exact ⟨fun z => z.1, fun z => ⟨z, decide_eq_true (by omega)⟩⟩
      have h2 := hle h ⟨h'.mv.up.filter _, fun x hx => by
        obtain ⟨a1, a2⟩ := List.mem_filter.mp hx
        exact ⟨(h'.mv.bd x a1).1, of_decide_eq_true a2⟩⟩ (show gameF R S ts x0 n (m'.filter fun x => decide (x < (n : Int))) = some z.2 by unfold gameF; rw [e1]; rfl)
      have hL : L ≤ z.2 + 1 := by
        unfold Ply.gplay at hf
        rw [e0] at hf
        dsimp only at hf
        split at hf
        · have := Option.some.inj hf; dsimp only at this; omega
        · split at hf
          · cases hf
          · have := Option.some.inj hf; dsimp only at this; omega
      omega
/-- nobody else is there -/
structure Lone (me n : Nat) (j : Nat) (q : Ply) : Prop where
  only : ∀ t c, look q.S.cards t = some c → t = me
  has : 0 < j → ∃ c, look q.S.cards me = some c ∧ c.rdy = true
  wk : ∀ m : Int, j ≤ m → m < n → ∀ i : Int, i ∈ getW q.wk m ↔ (m = 0 ∧ i = me)
theorem Lone.step {j : Nat} (l : Lone me n j q) (iv : PInv R (me + 1) q j) (ok : R.Ok) (hj : j < n) {x : Int} (hx : q.left[me]? = some [x]) (x2 : 2 ≤ x) : q.whoM R j = some (me : Int) ∧ Lone me n (j + 1) (q.tick R j) := by
  have eo := iv.enOk j
  have sp := sortI_perm (getW q.wk j)
  have ndS := sp.nodup_iff.mpr eo.nd
  have e2 := (iv.enter ok).1.boost ok
  have hmem : ∀ t, t ∈ sortI (getW q.wk j) ↔ ((j : Int) = 0 ∧ t = me) := fun t => by rw [sp.mem_iff]; exact l.wk j (Int.le_refl _) (by omega) t
  have a1 : ∀ t c, look (q.enter R j).S.cards t = some c → t = me := fun t c e => by
    by_cases z : t ∈ sortI (getW q.wk j)
    · exact ((hmem t).mp z).2
    · have e' : look ((sortI (getW q.wk j)).foldl (Ply.enter1 R) q.S).cards t = look q.S.cards t := look_ent z
      exact l.only t c (e'.symm.trans e)
  have a2 : ∃ c, look (q.enter R j).S.cards me = some c ∧ c.rdy = true := by
    by_cases z : j = 0
    · exact look_in ndS ((hmem me).mpr ⟨by omega, rfl⟩)
    · obtain ⟨c, c1, c2⟩ := l.has (by omega)
      have e' : look ((sortI (getW q.wk j)).foldl (Ply.enter1 R) q.S).cards me = look q.S.cards me := look_ent fun y => z (by have := ((hmem _).mp y).1; omega)
      exact ⟨c, e'.trans c1, c2⟩
  have b1 : ∀ t c, look ((q.enter R j).boost R).S.cards t = some c → t = me := fun t c e => by
    have e' : look ((q.enter R j).S.boostNow R).cards t = some c := e
    unfold LSt.boostNow at e'
    split at e'
    · rw [look_boosted] at e'
      obtain ⟨c', h1, _⟩ := Option.map_eq_some_iff.mp e'
      exact a1 t c' h1
    · exact a1 t c e'
  have b2 : ∃ c, look ((q.enter R j).boost R).S.cards me = some c ∧ c.rdy = true := by
    obtain ⟨c, c1, c2⟩ := a2
    show ∃ c, look ((q.enter R j).S.boostNow R).cards me = some c ∧ c.rdy = true
    unfold LSt.boostNow
    split
    · rw [look_boosted, c1]; exact ⟨_, rfl, c2⟩
    · exact ⟨c, c1, c2⟩
  have hwho : q.whoM R j = some (me : Int) := by
    show ((q.enter R j).boost R).S.first = _
    obtain ⟨c, c1, c2⟩ := b2
    cases f : ((q.enter R j).boost R).S.first with
    | none =>
      have := (look_ready e2.wf c1).mp c2
      rw [first_none.mp f] at this; cases this
    | some t =>
      obtain ⟨c', k1, _⟩ := run_some (R := R) (m := 1) e2.wf f
      rw [b1 t c' k1]
  refine ⟨hwho, ?_⟩
  obtain ⟨m1, m2⟩ := (mine_tick iv ok hx x2).1 hwho
  have hx' : ((q.enter R j).boost R).left[me]? = some [x] := hx
  have ht : q.tick R j = ((q.enter R j).boost R).runTo R j (j + 1) := rfl
  refine ⟨fun t c e => ?_, fun _ => m2, fun m h1 h2 i => ?_⟩
  · rw [ht, runTo_more hwho hx' (by omega)] at e
    obtain ⟨c0, k1, k2, _, _, _, k3, _⟩ := run_some (R := R) (m := 1) e2.wf hwho
    have e' : look (((q.enter R j).boost R).S.run R 1).cards t = some c := e
    rw [k3] at e'
    by_cases z : t = me
    · exact z
    · rw [if_neg z] at e'; exact b1 t c e'
  · rw [ht, runTo_more hwho hx' (by omega)]
    show i ∈ getW (delW q.wk j) m ↔ _
    rw [getW_del (by omega)]
    exact l.wk m (by omega) h2 i
theorem alone_game {x0 : Int} (w : Wf R.lines.length [] S) (hc : S.cards = []) (ok : R.Ok) (tok : TasksOk ts) (h11 : ts.length ≤ 11) (hx : (n : Int) + 1 ≤ x0 ∧ x0 ≤ 40) (hl : ∀ z ∈ ts, (n : Int) ≤ z.1) : Best (gameF R S ts x0 n) n n [] := by
  have g := GI.of_tasks (x0 := x0) w hc tok h11 (by omega)
  have hw := WkR.begin (ts := ts ++ [((0 : Int), [x0])]) (S := S) fun z hz => by
    rcases List.mem_append.mp hz with y | y
    · exact (tok.2 z y).1
    · rw [List.mem_singleton.mp y]; exact Int.le_refl _
  have l0 : Lone ts.length n 0 (Ply.begin S (ts ++ [(0, [x0])])) := by
    refine ⟨fun t c e => ?_, fun h => absurd h (Nat.lt_irrefl 0), fun m h1 h2 i => ?_⟩
    · have : look S.cards t = some c := e
      rw [hc] at this; cases this
    · constructor
      · intro hi
        have pm := getW_flat (m := m) g.iv.kn
        obtain ⟨t0, t1, _⟩ := g.iv.wt i (pm.mem_iff.mpr (List.mem_append_left _ hi))
        obtain ⟨u, rfl⟩ := Int.eq_ofNat_of_zero_le t0
        have hu : u < ts.length + 1 := by omega
        have hm := (hw.iff u (by simp; omega) m h1).mp hi
        rw [List.map_append] at hm
        by_cases z : u < ts.length
        · rw [List.getElem?_append_left (by simpa using z), List.getElem?_map, List.getElem?_eq_getElem z] at hm
          have h3 := hl _ (List.getElem_mem z)
          have h4 := Option.some.inj hm
          have h5 : (ts[u]).1 = m := h4
          omega
        · have : u = ts.length := by omega
          subst this
          rw [List.getElem?_append_right (by simp)] at hm
          simp at hm
          exact ⟨hm.symm, rfl⟩
      · rintro ⟨rfl, rfl⟩
        refine (hw.iff ts.length (by simp) 0 h1).mpr ?_
        rw [List.map_append, List.getElem?_append_right (by simp)]
        simp
  have key : ∀ j : Nat, j ≤ n → ∃ q, (Ply.begin S (ts ++ [(0, [x0])])).gplay R ts.length [] j = some (q, j) ∧ Lone ts.length n j q := by
    intro j
    induction j with
    | zero => exact fun _ => ⟨_, rfl, l0⟩
    | succ j ih =>
      intro hj
      obtain ⟨q, e, l⟩ := ih (by omega)
      have gi := g.play ok j (by omega) e
      have hleft := gi.left
      obtain ⟨a1, a2⟩ := l.step gi.iv ok (by omega) hleft (by omega)
      refine ⟨q.tick R j, ?_, a2⟩
      show (match (Ply.begin S (ts ++ [(0, [x0])])).gplay R ts.length [] j with | none => none | some (q, r) => _) = _
      rw [e]
      dsimp only
      rw [if_pos a1, if_neg (by simp)]
  obtain ⟨q, e, _⟩ := key n (Nat.le_refl _)
  refine ⟨⟨.nil, fun _ h => by cases h⟩, by unfold gameF; rw [e]; rfl, fun z r hz hf => ?_⟩
  have hr : r ≤ n := by
    unfold gameF at hf
    cases e2 : (Ply.begin S (ts ++ [(0, [x0])])).gplay R ts.length z n with
    | none => rw [e2] at hf; cases hf
    | some y =>
      rw [e2] at hf
      have := gplay_le e2
      have h2 : y.2 = r := Option.some.inj hf
      omega
  unfold ahead
  by_cases c : r = n
  · rw [if_pos c]
    cases z <;> rfl
  · rw [if_neg c]
    exact decide_eq_false (by omega)
end
end Qn

/-! M30: rules and tasks as a text. -/
namespace Qn
open PySem L2 TL
/-- a number's figures -/
def numS (n : Nat) : Str := Str.ofString (toString ((n : Nat) : Int))
theorem numS_tl (n : Nat) : (numS n).cps.toList = numL n := tl_num n
theorem numS_len {n : Nat} (h : n < 1000) : 1 ≤ (numS n).length ∧ (numS n).length ≤ 3 := by
  rw [len_tl, show tl (numS n) = numL n from tl_num n]
  refine ⟨?_, numL_len (by omega) (by omega)⟩
  have := numL_ne n
  cases e : numL n with
  | nil => exact absurd e this
  | cons _ _ => simp
theorem numS_int {n : Nat} (h : n < 1000) : intText? (numS n) = some (n : Int) := int_num (by have := numL_len (n := n) (k := 3) (by omega) (by omega); omega)
theorem numS_dig {n : Nat} : ∀ c ∈ (numS n).cps.toList, c ∈ (Str.ofString "0123456789").cps.toList := fun c hc => by
  rw [numS_tl] at hc
  have := numL_digits n c hc
  have key : ∀ d, d < 58 → 48 ≤ d → d ∈ (Str.ofString "0123456789").cps.toList := by decide +kernel
  exact key c (by omega) (by omega)
theorem numS_head : ∀ n, n < 401 → n = 0 ∨ (numL n).head? ≠ some 48 := by decide +kernel
theorem numS_zero : numS 0 = "0" := by decide +kernel
theorem numS_free {n c : Nat} (h : c < 48) : c ∉ tl (numS n) := fun hc => by
  rw [show tl (numS n) = numL n from tl_num n] at hc
  have := numL_digits n c hc
  omega
theorem numS_at0 {n : Nat} (h : n < 401) : ∃ c, (numS n).cps.toList[0]? = some c ∧ (numS n = "0" ∨ (⟨#[c]⟩ : Str) ≠ "0") := by
  have h1 := (numS_len (n := n) (by omega)).1
  rw [len_tl] at h1
  have e : tl (numS n) = (numS n).cps.toList := rfl
  rw [e] at h1
  refine ⟨(numS n).cps.toList[0], List.getElem?_eq_getElem _, ?_⟩
  rcases numS_head n h with z | z
  · left; rw [z]; exact numS_zero
  · right
    intro w
    have w2 := congrArg (fun s : Str => s.cps.toList) w
    have w3 : (numS n).cps.toList[0] = 48 := by
      have : [(numS n).cps.toList[0]] = [48] := w2
      exact List.cons.inj this |>.1
    refine z ?_
    rw [← numS_tl, List.head?_eq_getElem?, List.getElem?_eq_getElem h1, w3]
theorem numS_dash {n : Nat} : numS n ≠ "-" := fun e => by
  have : 45 ∈ tl (numS n) := by rw [e]; decide +kernel
  exact numS_free (by omega) this
/-! lines of words -/
def lnHead (b : Option Int) (kp : Bool) : List Str := ["rules", (match b with | none => "-" | some z => numS z.toNat), if kp then "kept" else "anew"]
def lnRow (x : Int × Int) : List Str := ["line", numS x.1.toNat, numS x.2.toNat]
def lnTask (t : Int × List Int) : List Str := "task" :: numS t.1.toNat :: t.2.map fun z => numS z.toNat
def lnAll (R : Rul) (ts : List (Int × List Int)) : List (List Str) := lnHead R.boost R.kept :: (R.lines.map lnRow ++ ts.map lnTask)
/-- the text's lines, and the text -/
def rowsT (R : Rul) (ts : List (Int × List Int)) : List Str := (lnAll R ts).map (Txt.join " ")
def textT (R : Rul) (ts : List (Int × List Int)) : Str := Txt.join "\n" (rowsT R ts)
/-- a word: no blank, no line's end, few signs -/
def Wrd (w : Str) : Prop := 32 ∉ tl w ∧ 10 ∉ tl w ∧ w.length ≤ 5
theorem wrd_num {n : Nat} (h : n < 1000) : Wrd (numS n) := ⟨numS_free (by omega), numS_free (by omega), by have := (numS_len h).2; omega⟩
theorem wrd_lit : Wrd "rules" ∧ Wrd "-" ∧ Wrd "kept" ∧ Wrd "anew" ∧ Wrd "line" ∧ Wrd "task" := by
  unfold Wrd
  decide +kernel
def RulN (R : Rul) : Prop := R.lines.length ≤ 4 ∧ (∀ p ∈ R.lines, p.1.toNat < 1000 ∧ p.2.toNat < 1000) ∧ ∀ b, R.boost = some b → b.toNat < 1000
theorem RulN.of {R : Rul} (ok : R.Ok) : RulN R := ⟨ok.four, fun p hp => by have := ok.each p hp; omega, fun b hb => by have := ok.boosts b hb; omega⟩
theorem lnAll_wrd {R : Rul} {ts : List (Int × List Int)} (rn : RulN R) (tok : TasksOk ts) : ∀ l ∈ lnAll R ts, l ≠ [] ∧ l.length ≤ 11 ∧ ∀ w ∈ l, Wrd w := fun l hl => by
  obtain ⟨w1, w2, w3, w4, w5, w6⟩ := wrd_lit
  rcases List.mem_cons.mp hl with e | e
  · subst e
    refine ⟨by simp [lnHead], by simp [lnHead], fun w hw => ?_⟩
    simp only [lnHead, List.mem_cons, List.not_mem_nil, or_false] at hw
    rcases hw with rfl | rfl | rfl
    · exact w1
    · cases hb : R.boost with
      | none => exact w2
      | some z => exact wrd_num (rn.2.2 z hb)
    · split
      · exact w3
      · exact w4
  · rcases List.mem_append.mp e with z | z
    · obtain ⟨x, hx, rfl⟩ := List.mem_map.mp z
      refine ⟨by simp [lnRow], by simp [lnRow], fun w hw => ?_⟩
      simp only [lnRow, List.mem_cons, List.not_mem_nil, or_false] at hw
      have := rn.2.1 x hx
      rcases hw with rfl | rfl | rfl
      · exact w5
      · exact wrd_num this.1
      · exact wrd_num this.2
    · obtain ⟨x, hx, rfl⟩ := List.mem_map.mp z
      obtain ⟨h0, h1, h2, h3, h4⟩ := tok.2 x hx
      refine ⟨by simp [lnTask], by simp [lnTask]; omega, fun w hw => ?_⟩
      simp only [lnTask, List.mem_cons, List.mem_map] at hw
      rcases hw with rfl | rfl | ⟨y, hy, rfl⟩
      · exact w6
      · exact wrd_num (by omega)
      · exact wrd_num (by have := h4 y hy; omega)
theorem not_joinL {c : Nat} {S : List Nat} (hS : c ∉ S) : ∀ {ps : List (List Nat)}, (∀ p ∈ ps, c ∉ p) → c ∉ joinL S ps
  | [], _ => by simp [joinL]
  | [p], h => by
    show c ∉ p
    exact h p List.mem_cons_self
  | p :: q :: r, h => by
    show c ∉ p ++ (S ++ joinL S (q :: r))
    have ih := not_joinL hS (ps := q :: r) fun z hz => h z (List.mem_cons_of_mem _ hz)
    intro hc
    rcases List.mem_append.mp hc with z | z
    · exact h p List.mem_cons_self z
    · rcases List.mem_append.mp z with y | y
      · exact hS y
      · exact ih y
theorem len_joinL {S : List Nat} {k : Nat} : ∀ {ps : List (List Nat)}, (∀ p ∈ ps, p.length ≤ k) → (joinL S ps).length ≤ ps.length * (k + S.length)
  | [], _ => by simp [joinL]
  | [p], h => by
    show p.length ≤ _
    have := h p List.mem_cons_self
    simp; omega
  | p :: q :: r, h => by
    show (p ++ (S ++ joinL S (q :: r))).length ≤ _
    have ih := len_joinL (S := S) (ps := q :: r) fun z hz => h z (List.mem_cons_of_mem _ hz)
    have h1 := h p List.mem_cons_self
    rw [List.length_append, List.length_append, List.length_cons, Nat.succ_mul]
    omega
theorem line_split {l : List Str} (hne : l ≠ []) (h : ∀ w ∈ l, Wrd w) : Txt.split (Txt.join " " l) " " = l := split_join (s := 32) (S := []) rfl (by decide +kernel) hne fun p hp => (h p hp).1
theorem line_len {l : List Str} (h : ∀ w ∈ l, Wrd w) : (Txt.join " " l).length ≤ l.length * 6 := by
  rw [len_tl, join_eq, tl_join]
  have := len_joinL (S := tl " ") (k := 5) (ps := l.map tl) fun p hp => by
    obtain ⟨w, hw, rfl⟩ := List.mem_map.mp hp
    rw [← len_tl]; exact (h w hw).2.2
  rw [List.length_map] at this
  exact this
theorem line_nl {l : List Str} (h : ∀ w ∈ l, Wrd w) : 10 ∉ tl (Txt.join " " l) := by
  rw [join_eq, tl_join]
  refine not_joinL (by decide +kernel) fun p hp => ?_
  obtain ⟨w, hw, rfl⟩ := List.mem_map.mp hp
  exact (h w hw).2.1
theorem rows_len {R : Rul} {ts : List (Int × List Int)} : (rowsT R ts).length = 1 + R.lines.length + ts.length := by unfold rowsT lnAll; simp; omega
theorem text_split {R : Rul} {ts : List (Int × List Int)} (rn : RulN R) (tok : TasksOk ts) : Txt.split (textT R ts) "\n" = rowsT R ts := split_join (s := 10) (S := []) rfl (by decide +kernel) (by unfold rowsT lnAll; simp) fun p hp => by
  unfold rowsT at hp
  obtain ⟨l, hl, rfl⟩ := List.mem_map.mp hp
  exact line_nl (lnAll_wrd rn tok l hl).2.2
theorem row_len {R : Rul} {ts : List (Int × List Int)} (rn : RulN R) (tok : TasksOk ts) : ∀ p ∈ rowsT R ts, p.length ≤ 66 := fun p hp => by
  unfold rowsT at hp
  obtain ⟨l, hl, rfl⟩ := List.mem_map.mp hp
  obtain ⟨_, h1, h2⟩ := lnAll_wrd rn tok l hl
  have := line_len h2
  omega
theorem text_len {R : Rul} {ts : List (Int × List Int)} (rn : RulN R) (tok : TasksOk ts) : (textT R ts).length ≤ 17 * 67 := by
  unfold textT
  rw [len_tl, join_eq, tl_join]
  have := len_joinL (S := tl "\n") (k := 66) (ps := (rowsT R ts).map tl) fun p hp => by
    obtain ⟨w, hw, rfl⟩ := List.mem_map.mp hp
    rw [← len_tl]; exact row_len rn tok w hw
  rw [List.length_map, rows_len] at this
  have h1 := rn.1
  have h2 := tok.1
  refine Nat.le_trans this (Nat.mul_le_mul (by omega) (Nat.le_refl 67))
end Qn

/-! M31: lines of words as sums of texts. -/
namespace Qn
open PySem L2 TL
theorem join3 {a b c : Str} (h : tl a' = tl a ++ tl " ") : a' ++ b ++ (" " : Str) ++ c = Txt.join " " [a, b, c] := by
  apply ext_tl
  rw [join_eq, tl_join, tl_append, tl_append, tl_append, h]
  simp [joinL]
theorem headT {b : Str} {c : Str} : ("rules " : Str) ++ b ++ (" " : Str) ++ c = Txt.join " " ["rules", b, c] := join3 (by decide +kernel)
theorem rowT {b : Str} {c : Str} : ("line " : Str) ++ b ++ (" " : Str) ++ c = Txt.join " " ["line", b, c] := join3 (by decide +kernel)
theorem joinL_flat {S : List Nat} : ∀ (m : List Nat) (bs : List (List Nat)), joinL S (m :: bs) = m ++ joinL [] (bs.map (S ++ ·))
  | m, [] => by simp [joinL]
  | m, [b] => by simp [joinL]
  | m, b :: c :: r => by
    have ih := joinL_flat (S := S) b (c :: r)
    show m ++ (S ++ joinL S (b :: c :: r)) = m ++ ((S ++ b) ++ ([] ++ joinL [] ((S ++ c) :: r.map (S ++ ·))))
    rw [ih]
    simp
theorem taskT {m : Str} {bs : List Str} : ("task " : Str) ++ m ++ Txt.join "" (bs.map fun b => (" " : Str) ++ b) = Txt.join " " ("task" :: m :: bs) := by
  apply ext_tl
  rw [join_eq, join_eq, tl_join, tl_append, tl_append, tl_join, List.map_cons, List.map_cons, List.map_map]
  have h : tl ("task " : Str) = tl "task" ++ tl " " := by decide +kernel
  rw [h]
  show tl "task" ++ tl " " ++ tl m ++ _ = tl "task" ++ (tl " " ++ joinL (tl " ") (tl m :: bs.map tl))
  rw [joinL_flat, List.map_map]
  have e : bs.map (tl ∘ fun b => (" " : Str) ++ b) = bs.map ((fun x => tl " " ++ x) ∘ tl) := List.map_congr_left fun b _ => tl_append _ _
  rw [e]
  have z : tl ("" : Str) = [] := by decide +kernel
  rw [z]
  simp
end Qn

/-! S3: known facts, numbers in lists, dicts of lists. -/
namespace Qn
open PySem L2
local macro_rules | `(tactic| fail "ne") => `(tactic| first | assumption | (apply Ne.symm; assumption) | (apply ne_of_none; assumption; assumption) | (apply Ne.symm; apply ne_of_none; assumption; assumption) | (apply ne_of; assumption; assumption; (intro z; cases z)))
local macro_rules | `(tactic| fail "hp") => `(tactic| with_reducible first | assumption | apply upd_same | (apply upd_old; rotate_left; assumption; fail "hp") | (apply upd_oth; rotate_left; fail "ne"; fail "hp"))
local macro_rules | `(tactic| fail "sl") => `(tactic| with_reducible first | assumption | (apply SqL.of; fail "hp"))
local macro_rules | `(tactic| fail "st") => `(tactic| with_reducible first | assumption | (apply SqT.of; fail "hp"))
local macro_rules | `(tactic| fail "tx") => `(tactic| with_reducible first | assumption | (apply Txt.c_Reader; assumption) | (apply Txt.n_Reader_head; assumption) | (apply Txt.n_Reader_read_lines; assumption) | (apply Txt.n_Reader_read_tasks; assumption))
local macro_rules | `(tactic| fail "lk") => `(tactic| with_reducible first | assumption | apply lk_LF_rules | apply lk_LF_cards | apply lk_LF_rows | apply lk_LF_time | apply lk_CF_line | apply lk_CF_quantum | apply lk_CF_share | apply lk_CF_is_ready | apply lk_CF_spent | (apply lk_LF_no; decide +kernel; decide +kernel; decide +kernel; decide +kernel))
local macro_rules | `(tactic| fail "at") => `(tactic| with_reducible first | assumption | apply mc_0 | apply mc_1 | apply mc_2 | apply mc_3 | apply mc_4 | apply at_0 | apply at_1 | apply at_2 | apply at_3 | apply at_4 | (apply atI_nat; assumption) | (apply at_z; assumption))
local macro_rules | `(tactic| fail "go") => `(tactic| repeat (first
  | apply rd_step
  | with_reducible (first
    | (apply r_kFld; fail "hp"; fail "tx"; fail "tx"; fail "lk")
    | (apply r_ixL; fail "sl"; fail "at") | (apply r_ixT; fail "st"; fail "at")
    | (apply r_kMeth; fail "hp"; fail "lk") | (apply r_kBML; fail "sl")
    | (apply r_lenL; fail "sl") | (apply r_lenT; fail "st") | (apply r_lenD; fail "hp")
    | (apply r_kDGetI; fail "hp"; (first | assumption | rfl)) | (apply r_kDGetS; fail "hp"; (first | assumption | apply mv_rules | apply mv_rows | apply mv_cards | apply mv_now)) | (apply r_kDInI; fail "hp") | (apply r_kDNotInI; fail "hp")
    | (apply r_kAugF; fail "hp"; fail "tx"; fail "tx"; fail "lk")
    | (apply r_isi_tuple_tuple; fail "st") | (apply r_isi_list_tuple; fail "sl") | (apply r_isi_list_list; fail "sl") | (apply r_isi_tuple_list; fail "st")
    | (apply r_kUnT; fail "st"; with_unfolding_all rfl) | (apply r_kIL; fail "sl") | (apply r_kIT; fail "st") | (apply r_kIE; fail "st") )))
local macro_rules | `(tactic| fail "eg") => `(tactic| repeat (first
  | apply stp
  | (refine e_rul0 (fun _ => ?_))

  | (refine e_tup0 (fun _ => ?_)) ))
local macro_rules | `(tactic| fail "egs") => `(tactic| (try (with_reducible refine e_seq ?_)) <;> repeat (first
  | apply stp
  | (with_reducible refine e_seq ?_)
  | (refine e_rul0 (fun _ => ?_))

  | (refine e_tup0 (fun _ => ?_)) ))
/-! ### what is known, by any word -/
def Kn (φ : Hp → Prop) (m : ∀ {k k'}, Same k k' → φ k → φ k') : Ty := fun _ => ⟨fun k _ => φ k, fun s x => m s x⟩
/-- what is told of k, and may be known further on -/
theorem Sat.tellK {P F : List As} {X : Ty} {v : V} {H : Hp} [t : Take P v X F] (s : Sat P H) : ∃ k h, Same k H ∧ Same h H ∧ Apart k h ∧ (X v).p k h ∧ ∀ B : As, B.p k hnil → Sat (B :: P) H := by
  obtain ⟨k, h, s1, s2, x, n, y⟩ := s
  obtain ⟨h1, h2, t1, t2, z, pA, pF⟩ := t.tk _ _ y
  exact ⟨k, h1, s1, t1.trans s2, x.sub (Same.refl _) t1, pA, fun B hB => ⟨k, h, s1, s2, x, n, hnil, h, same_nil, Same.refl _, apart_nil, hB, y⟩⟩
/-- one owned cell of a thing is written -/
theorem Sat.write {F : List As} {X Y : Ty} {v : V} {p : Addr} {o' : HO} {H : Hp} (s : Sat (At v X :: F) H) (no : ∀ xs, o' ≠ .tup xs) (f : ∀ k h, Same k H → Same h H → (∃ hF, SatL F k hF) → (X v).p k h → h p ≠ none ∧ (Y v).p k (upd h p o')) : Sat (At v Y :: F) (upd H p o') := by
  obtain ⟨k, h, s1, s2, x, n, h1, h2, t1, t2, z, pA, pF⟩ := s
  obtain ⟨ow, pB⟩ := f k h1 s1 (t1.trans s2) ⟨h2, pF⟩ pA
  have o1 : ∃ o, h1 p = some o := by
    cases e : h1 p with
    | none => exact absurd e ow
    | some o => exact ⟨o, rfl⟩
  obtain ⟨o, e1⟩ := o1
  have eh := t1 _ _ e1
  have kp : k p = none := (x p).resolve_right (by rw [eh]; simp)
  have fp : h2 p = none := (z p).resolve_left ow
  have up : ∀ {g g' : Hp}, Same g g' → Same (upd g p o') (upd g' p o') := fun {g g'} s b u e => by
    by_cases q : b = p
    · subst q; rw [upd_same] at e ⊢; exact e
    · rw [upd_ne q] at e ⊢; exact s _ _ e
  have to : ∀ {g g' : Hp}, Same g g' → g p = none → Same g (upd g' p o') := fun {g g'} s n b u e => upd_oth (s _ _ e) fun q => by rw [q, n] at e; cases e
  refine ⟨k, upd h p o', to s1 kp, up s2, fun b => ?_, fun b xs e => ?_, upd h1 p o', h2, up t1, to t2 fp, fun b => ?_, pB, pF⟩
  · by_cases q : b = p
    · subst q; exact .inl kp
    · rw [upd_ne q]; exact x b
  · by_cases q : b = p
    · subst q; rw [upd_same] at e; exact no xs (Option.some.inj e)
    · rw [upd_ne q] at e; exact n b xs e
  · by_cases q : b = p
    · subst q; exact .inr fp
    · rw [upd_ne q]; exact z b
/-- what is new stands beside, by what is known -/
theorem Sat.newW {A : As} {P : List As} {p : Addr} {o : HO} {H k h : Hp} (s1 : Same k H) (s2 : Same h H) (x : Apart k h) (nt : NoTup h) (y : SatL P k h) (n : H p = none) (hA : A.p k (upd hnil p o)) (no : ∀ xs, o ≠ .tup xs) : Sat (A :: P) (upd H p o) := by
  have nk := s1.free n
  have nh := s2.free n
  have sH : Same H (upd H p o) := Same.upd n
  have sp : Same (upd hnil p o) (upd H p o) := fun b u e => by
    by_cases z : b = p
    · subst z; rw [upd_same] at e ⊢; exact e
    · rw [upd_ne z] at e; cases e
  have ap : ∀ {g : Hp}, g p = none → Apart g (upd hnil p o) := fun {g} e b => by
    by_cases z : b = p
    · subst z; exact .inl e
    · exact .inr (by rw [upd_ne z]; rfl)
  exact ⟨k, hor (upd hnil p o) h, s1.trans sH, hor_sub sp (s2.trans sH), (hor_apart (ap nk).symm x.symm).symm, noTup_hor (noTup_one no) nt, upd hnil p o, h, same_hor_l, same_hor_r (ap nh).symm, (ap nh).symm, hA, y⟩
theorem merge_val {G : Int → V → Prop} : ∀ {kvs acc : List (Key × V)} {t : Int}, (∀ p ∈ kvs, ∃ t, p.1 = .inl t ∧ G t p.2) → ((∃ p ∈ kvs, p.1 = .inl t) → ∃ v, valV (mergeK acc kvs) (.inl t) = some v ∧ G t v) ∧ ((∀ p ∈ kvs, p.1 ≠ .inl t) → valV (mergeK acc kvs) (.inl t) = valV acc (.inl t))
  | [], acc, t, _ => ⟨fun ⟨_, h, _⟩ => (by cases h), fun _ => rfl⟩
  | (k, v) :: r, acc, t, h => by
    obtain ⟨u, e, g⟩ := h _ List.mem_cons_self
    have ih := merge_val (kvs := r) (acc := putK acc k v) (t := t) fun p hp => h p (List.mem_cons_of_mem _ hp)
    have em : mergeK acc ((k, v) :: r) = mergeK (putK acc k v) r := rfl
    rw [em]
    refine ⟨fun hx => ?_, fun hx => ?_⟩
    · by_cases q : ∃ p ∈ r, p.1 = .inl t
      · exact ih.1 q
      · rw [ih.2 fun p hp z => q ⟨p, hp, z⟩, valV_put]
        obtain ⟨p, hp, ep⟩ := hx
        rcases List.mem_cons.mp hp with z | z
        · rw [z] at ep
          rw [if_pos ep.symm]
          have : u = t := Sum.inl.inj (e.symm.trans ep)
          exact ⟨v, rfl, this ▸ g⟩
        · exact absurd ⟨p, z, ep⟩ q
    · rw [ih.2 fun p hp => hx p (List.mem_cons_of_mem _ hp), valV_put, if_neg (fun z => hx _ List.mem_cons_self z.symm)]
theorem merge_len : ∀ {kvs acc : List (Key × V)}, (mergeK acc kvs).length ≤ acc.length + kvs.length
  | [], acc => Nat.le_refl _
  | (k, v) :: r, acc => by
    have em : mergeK acc ((k, v) :: r) = mergeK (putK acc k v) r := rfl
    rw [em]
    have := merge_len (kvs := r) (acc := putK acc k v)
    have h2 : (putK acc k v).length ≤ acc.length + 1 := by
      unfold putK
      split
      · rw [List.length_map]; omega
      · rw [List.length_append]; show _ + 1 ≤ _; omega
    show _ ≤ acc.length + (r.length + 1)
    omega
/-- pairs told by their places, as a list of keys and values -/
theorem pairs_of {K : PySem.W.Frag} {H k : Hp} {f : Int → List Int} (s : Same k H) : ∀ {ps : List Addr} {ts : List Int}, ps.length = ts.length →
    (∀ (i : Nat) (p : Addr) (t : Int), ps[i]? = some p → ts[i]? = some t → ∃ q, k p = some (.tup [.int t, .ref q]) ∧ k q = some (.lst ((f t).map V.int))) →
    ∃ kvs : List (Key × V), PySem.Paired (fun p kv => SqT K H p [kV kv.1, kv.2]) ps kvs ∧ kvs.map (·.1) = ts.map Sum.inl ∧ ∀ p ∈ kvs, ∃ t, p.1 = .inl t ∧ ∃ q, p.2 = .ref q ∧ k q = some (.lst ((f t).map V.int))
  | [], [], _, _ => ⟨[], .nil, rfl, fun p h => by cases h⟩
  | p :: ps, t :: ts, hl, h => by
    obtain ⟨q, h1, h2⟩ := h 0 p t rfl rfl
    obtain ⟨kvs, a, b, c⟩ := pairs_of (K := K) s (ps := ps) (ts := ts) (by simpa using hl) fun i p t e1 e2 => h (i + 1) p t e1 e2
    refine ⟨(.inl t, .ref q) :: kvs, .cons (SqT.of (s _ _ h1)) a, by simp [b], fun x hx => ?_⟩
    rcases List.mem_cons.mp hx with z | z
    · rw [z]; exact ⟨t, rfl, q, rfl, h2⟩
    · exact c x z
  | [], _ :: _, hl, _ => by cases hl
  | _ :: _, [], hl, _ => by cases hl
theorem kl_of {F G : List As} {q : Addr} {o : HO} {k h : Hp} [tq : Take F (.ref q) (Kel o) G] (s : SatL F k h) : k q = some o := by
  obtain ⟨h3, h4, t3, t4, z2, ⟨q', e, pB⟩, pG⟩ := tq.tk _ _ s
  cases e
  exact pB
section
variable {P F G : List As} {K : PySem.W.Frag} {σ : St} {Q : VK} {a b p q d : Addr} {R : Hp → Prop} {v x y : V} {xs ys : List V} {ns ms : List Int} {i : Nat} {n : Nat} {M : Int → Option (List Int)} {kvs : List (Key × V)} {t : Int}
/-! numbers in lists -/
theorem atI_ints (h : i < ns.length) : atI (ns.map V.int) (i : Nat) = some (.int (ns.getD i 0)) := atI_nat (by rw [List.getElem?_map, List.getElem?_eq_getElem h]; simp [List.getD, h])
theorem e_ixI [s : Sees P p (.lst (ns.map V.int))] (h : i < ns.length) (k : Ent P (fun H => Q (.int (ns.getD i 0)) H)) : Ent P (fun H => rIxL K (.ref p) (.int (i : Nat)) H Q) := e_ixL (atI_ints h) k
instance sp_sum [s : Sees P p (.lst (ns.map V.int))] : Stp P (fun H => rSum K [.ref p] H Q) P (fun H => Q (.int ns.sum) H) := ⟨fun k H h => ⟨p, ns, rfl, SqL.of (s.sees H h), k H h⟩⟩
theorem cut_from : cutV xs (some (i : Nat)) none = xs.drop i := by
  unfold cutV
  rw [HT.sIx_nat, HT.sIx_none]
  by_cases h : i ≤ xs.length
  · rw [Nat.min_eq_left h, List.take_of_length_le (by rw [List.length_drop]; omega)]
  · rw [Nat.min_eq_right (by omega), List.drop_of_length_le (Nat.le_refl _), List.drop_of_length_le (show xs.length ≤ i by omega)]; simp
theorem cut_to : cutV xs none (some (i : Nat)) = xs.take i := by
  unfold cutV
  rw [HT.sIx_nat, HT.sIx_none, List.drop_zero, Nat.sub_zero]
  by_cases h : i ≤ xs.length
  · rw [Nat.min_eq_left h]
  · rw [Nat.min_eq_right (by omega), List.take_of_length_le (Nat.le_refl _), List.take_of_length_le (by omega)]
instance sp_neE [s : Sees P p (.lst (ns.map V.int))] [s2 : Sees P q (.lst [])] : Stp P (fun H => rNeD K (.ref p) (.ref q) H Q) P (fun H => Q (.bl (!ns.isEmpty)) H) := ⟨fun k H h => r_neE_ints (SqL.of (s.sees H h)) (SqL.of (s2.sees H h)) (k H h)⟩
instance sp_eqE [s : Sees P p (.lst (ns.map V.int))] [s2 : Sees P q (.lst [])] : Stp P (fun H => rEqD K (.ref p) (.ref q) H Q) P (fun H => Q (.bl ns.isEmpty) H) := ⟨fun k H h => r_eqE_ints (SqL.of (s.sees H h)) (SqL.of (s2.sees H h)) (k H h)⟩
/-! a dict of lists of numbers -/
def DolX (n : Nat) (M : Int → Option (List Int)) : Ty := fun v => ⟨fun k h => ∃ (d : Addr) (kvs : List (Key × V)), v = .ref d ∧ h d = some (.dK kvs) ∧ kvs.length ≤ n ∧
    (∀ t, M t = none → valV kvs (.inl t) = none) ∧ (∀ t xs, M t = some xs → ∃ q, valV kvs (.inl t) = some (.ref q) ∧ k q = some (.lst (xs.map V.int))),
  fun s ⟨d, kvs, e, h1, h2, h3, h4⟩ => ⟨d, kvs, e, h1, h2, h3, fun t xs e => by obtain ⟨q, a, b⟩ := h4 t xs e; exact ⟨q, a, s _ _ b⟩⟩⟩
theorem e_dolNew [t : Take P (.ref p) (DctX []) F] {X : Hp → Prop} (k : Ent (At (.ref p) (DolX 0 fun _ => none) :: F) X) : Ent P X := fun H s => k H (s.imp fun g h x => by
  obtain ⟨h1, h2, s1, s2, z, ⟨q, e, hq⟩, pF⟩ := t.tk g h x
  exact ⟨h1, h2, s1, s2, z, ⟨q, [], e, hq, Nat.le_refl _, fun _ _ => rfl, fun _ _ e => by cases e⟩, pF⟩)
theorem e_dolGet {ms : List Int} [tk : Take P (.ref p) (DolX n M) F] (h : M t = some ms) (k : ∀ q, Ent (At (.ref q) (KLst (ms.map V.int)) :: P) (fun H => Q (.ref q) H)) : Ent P (fun H => kDGet (.ref p) (.int t) H Q) := fun H s => by
  obtain ⟨g, h0, s1, s2, ap, ⟨d, kvs, e, hd, hl, hn, hs⟩, cl⟩ := s.tellK (t := tk)
  cases e
  obtain ⟨q, h1, h2⟩ := hs t ms h
  exact r_kDGetI (s2 _ _ hd) h1 (k q H (cl _ ⟨q, rfl, h2⟩))
theorem e_dolPut {ms : List Int} [tk : Take P (.ref p) (DolX n M) F] [tq : Take F (.ref q) (KLst (ms.map V.int)) G] (hn : n < 100000) (k : Ent (At (.ref p) (DolX (n + 1) fun u => if u = t then some ms else M u) :: F) R) :
    Ent P (fun H => kDPut (.ref q) (.ref p) (.int t) H R) := fun H s => by
  have sp := s.imp tk.tk
  obtain ⟨g, h0, s1, s2, ap, d, kvs, e, hd, hl, hN, hS⟩ := s.tell (t := tk)
  cases e
  refine r_kDPutI (s2 _ _ hd) (by omega) (k _ (sp.write (fun _ e => by cases e) fun g h z1 z2 ⟨hF, sF⟩ ⟨d, kvs', e, hd', hl', hN', hS'⟩ => ?_))
  cases e
  have hq := kl_of (tq := tq) sF
  have ee := z2 _ _ hd'
  rw [s2 _ _ hd] at ee
  cases ee
  refine ⟨by rw [hd']; simp, _, _, rfl, upd_same, ?_, fun u hu => ?_, fun u xs hu => ?_⟩
  · unfold putK
    split
    · rw [List.length_map]; omega
    · rw [List.length_append]; show _ + 1 ≤ _; omega
  · rw [valV_put]
    dsimp only at hu
    by_cases z : u = t
    · rw [if_pos z] at hu; cases hu
    · rw [if_neg z] at hu
      rw [if_neg (fun y => z (Sum.inl.inj y))]
      exact hN' u hu
  · rw [valV_put]
    dsimp only at hu
    by_cases z : u = t
    · rw [if_pos z] at hu
      rw [if_pos (by rw [z]), ← Option.some.inj hu]
      exact ⟨q, rfl, hq⟩
    · rw [if_neg z] at hu
      rw [if_neg (fun y => z (Sum.inl.inj y))]
      exact hS' u xs hu
def cDictP (K : PySem.W.Frag) : List V → Hp → VK → Prop := fun xs H Q => ∃ (a : Addr) (ps : List Addr) (kvs : List (Key × V)), xs = [.ref a] ∧ SqL K H a (ps.map V.ref) ∧ PySem.Paired (fun p kv => SqT K H p [kV kv.1, kv.2]) ps kvs ∧
    ∀ p, H p = none → Q (.ref p) (upd H p (.dK (mergeK [] kvs)))
theorem qr_dictP {X : Cx} (hc : X.calm = true) : CallR X (.type "dict") (cDictP X.K) := call_dictP hc
/-- dict([(number, list), ..]) -/
theorem e_dolPairs {ps : List Addr} {ts : List Int} {f : Int → List Int} [s1 : Sees P a (.lst (ps.map V.ref))] (hl : ps.length = ts.length)
    (hp : ∀ k h, SatL P k h → ∀ (i : Nat) (p : Addr) (t : Int), ps[i]? = some p → ts[i]? = some t → ∃ q, k p = some (.tup [.int t, .ref q]) ∧ k q = some (.lst ((f t).map V.int)))
    (k : ∀ d, Ent (At (.ref d) (DolX ts.length fun t => if t ∈ ts then some (f t) else none) :: P) (fun H => Q (.ref d) H)) :
    Ent P (fun H => cDictP K [.ref a] H Q) := fun H s => by
  have sH := s1.sees H s
  have s' := s
  obtain ⟨g, h, z1, z2, ap, nt, y⟩ := s'
  obtain ⟨kvs, k1, k2, k3⟩ := pairs_of (K := K) z1 hl (hp g h y)
  have lk : kvs.length = ts.length := by have := congrArg List.length k2; simpa using this
  have keyin : ∀ t, (∃ p ∈ kvs, p.1 = .inl t) ↔ t ∈ ts := fun t => by
    have : (Sum.inl t : Key) ∈ kvs.map (·.1) ↔ t ∈ ts := by rw [k2]; simp
    rw [← this, List.mem_map]
  refine ⟨a, ps, kvs, rfl, SqL.of sH, k1, fun d nd => k d _ (Sat.newW z1 z2 ap nt y nd ⟨d, mergeK [] kvs, rfl, upd_same, by have := merge_len (kvs := kvs) (acc := []); simp at this; omega, fun t ht => ?_, fun t xs ht => ?_⟩ fun _ e => by cases e)⟩
  · dsimp only at ht
    have : t ∉ ts := fun z => by rw [if_pos z] at ht; cases ht
    have q := (merge_val (G := fun t v => True) (kvs := kvs) (acc := []) (t := t) fun p hp => by obtain ⟨t, e, _⟩ := k3 p hp; exact ⟨t, e, trivial⟩).2 fun p hp z => this ((keyin t).mp ⟨p, hp, z⟩)
    rw [q]; rfl
  · dsimp only at ht
    have hm : t ∈ ts := Classical.byContradiction fun z => by rw [if_neg z] at ht; cases ht
    rw [if_pos hm] at ht
    rw [← Option.some.inj ht]
    obtain ⟨v, e, q, rfl, hq⟩ := (merge_val (G := fun t v => ∃ q, v = .ref q ∧ g q = some (.lst ((f t).map V.int))) (kvs := kvs) (acc := []) (t := t) k3).1 ((keyin t).mpr hm)
    exact ⟨q, e, hq⟩
end
/-! ### facts by words -/
theorem e_kn {P : List As} {X : Hp → Prop} (v : V) (φ : Hp → Prop) (m : ∀ {k k'}, Same k k' → φ k → φ k') (f : ∀ k h, SatL P k h → φ k) (e : Ent (At v (Kn φ m) :: P) X) : Ent P X := fun H s => e H (s.imp fun k h x => ⟨hnil, h, same_nil, Same.refl _, apart_nil, f k h x, x⟩)
instance pers_kn {φ : Hp → Prop} {m : ∀ {k k'}, Same k k' → φ k → φ k'} : Pers (Kn φ m) := ⟨fun _ _ _ x => x⟩
theorem kn_of {P F : List As} {v : V} {φ : Hp → Prop} {m : ∀ {k k'}, Same k k' → φ k → φ k'} {k h : Hp} (t : Take P v (Kn φ m) F) (s : SatL P k h) : φ k := by
  obtain ⟨h3, h4, t3, t4, z2, pB, pG⟩ := t.tk _ _ s
  exact pB
/-! rules made anew -/
theorem e_mkrul {P F : List As} {Q : VK} {la : Addr} {R : Rul} {b : Option Int} {kp : Bool} [tk : Take P (.ref la) (RlsX R) F] (k : ∀ ra, Ent (At (.ref ra) (RulX { R with boost := b, kept := kp }) :: P) (fun H => Q (.ref ra) H)) : Ent P (fun H => kTup [.ref la, bV b, .str (chS kp)] H Q) := fun H s =>
  r_kTup (by simp) fun p np => k p _ <| by
    obtain ⟨g, h0, s1, s2, ap, la', ps, e, h1, h2, h3⟩ := s.tell (t := tk)
    cases e
    have sH : Same H (upd H p (.tup [.ref la, bV b, .str (chS kp)])) := Same.upd np
    refine (s.same sH).learn (k2 := tups (upd H p (.tup [.ref la, bV b, .str (chS kp)]))) tups_sub (fun b n => tups_tup n) ⟨p, la, ps, rfl, tups_of upd_same, tups_of (sH _ _ (s1 _ _ h1)), h2, fun i p q => tups_of (sH _ _ (s1 _ _ (h3 i p q)))⟩
/-! ### lists told of pure turns -/
def IG {α : Type} (l : List α) (f : α → Option V) (P : List As) (i : Nat) : List V → List As → Prop := fun acc Q => acc = (l.take i).filterMap f ∧ Q = P
section
variable {α : Type} {P P' F : List As} {K : PySem.W.Frag} {σ σ0 : St} {Q : VK} {D a b p T : Addr} {acc xs ys : List V} {y : V} {n i : Nat} {g : TG} {tt : TT} {te : TE} {own : List (Str × Nat)} {ns ms : List Int} {J : It} {l : List α} {f : α → Option V} {u : α}
theorem take_snoc (h : l[i]? = some u) : (l.take (i + 1)).filterMap f = (l.take i).filterMap f ++ (f u).toList := by
  rw [List.take_add_one, h, List.filterMap_append]
  cases e : f u <;> simp [e]
theorem e_some (h : l[i]? = some u) (e : f u = some y) (hn : l.length < 100000) (m : Imp P' (At (.ref D) (LstX ((l.take i).filterMap f)) :: P)) : Ent P' (fun H => puC D (IG l f P (i + 1)) y H) := fun H s => by
  have s' := s.imp m.imp
  have hz : ((l.take i).filterMap f).length < 100000 := by
    have h1 := List.length_filterMap_le f (l.take i)
    rw [List.length_take] at h1
    omega
  refine ⟨_, Sat.sees (F := P) s', Nat.lt_of_lt_of_le hz (by decide), _, _, ⟨rfl, rfl⟩, ?_⟩
  rw [take_snoc h, e]
  exact s'.set _ fun _ e => by cases e
theorem e_none (h : l[i]? = some u) (e : f u = none) (m : Imp P' (At (.ref D) (LstX ((l.take i).filterMap f)) :: P)) : Ent P' (fun H => nxC D (IG l f P (i + 1)) H) := fun H s =>
  ⟨_, _, ⟨rfl, rfl⟩, by rw [take_snoc h, e]; simpa using s.imp m.imp⟩
theorem e_lcG (l : List α) (f : α → Option V) {xs : List V} (s : Sees P p (.lst xs)) [hw : Wip σ own σ0] (hl : xs.length = l.length)
    (hs : ∀ D i x u, xs[i]? = some x → l[i]? = some u → Ent (At (.ref D) (LstX ((l.take i).filterMap f)) :: P) (fun H => g x σ0 H fun σ2 H2 => wipe σ2 (own.map (·.2)) = σ0 ∧ tt σ2 H2 fun b H3 => kIf b (te σ2 H3 (puC D (IG l f P (i + 1)))) (nxC D (IG l f P (i + 1)) H3)))
    (hd : ∀ D, Ent (At (.ref D) (LstX (l.filterMap f)) :: P) (fun H => Q (.ref D) H)) : Ent P (fun H => kLc (Itl K p) g tt te (own.map (·.2)) σ Q H) := by
  refine e_lcL xs hw.eq (fun i => IG l f P i) ⟨by simp, rfl⟩ (fun i acc P' q H h => by rw [q.2] at h; exact s.sees H h) (fun D i x acc P' e q => ?_) fun D acc P' q => ?_
  · obtain ⟨rfl, rfl⟩ := q
    have hi : i < l.length := by have := (List.getElem?_eq_some_iff.mp e).1; omega
    exact hs D i x l[i] e (List.getElem?_eq_getElem hi)
  · obtain ⟨rfl, rfl⟩ := q
    rw [hl, List.take_length]
    exact hd D
theorem e_lcGT (l : List α) (f : α → Option V) {xs : List V} (s : Sees P p (.tup xs)) [hw : Wip σ own σ0] (hl : xs.length = l.length)
    (hs : ∀ D i x u, xs[i]? = some x → l[i]? = some u → Ent (At (.ref D) (LstX ((l.take i).filterMap f)) :: P) (fun H => g x σ0 H fun σ2 H2 => wipe σ2 (own.map (·.2)) = σ0 ∧ tt σ2 H2 fun b H3 => kIf b (te σ2 H3 (puC D (IG l f P (i + 1)))) (nxC D (IG l f P (i + 1)) H3)))
    (hd : ∀ D, Ent (At (.ref D) (LstX (l.filterMap f)) :: P) (fun H => Q (.ref D) H)) : Ent P (fun H => kLc (Itt K p) g tt te (own.map (·.2)) σ Q H) := by
  refine e_lcT xs hw.eq (fun i => IG l f P i) ⟨by simp, rfl⟩ (fun i acc P' q H h => by rw [q.2] at h; exact s.sees H h) (fun D i x acc P' e q => ?_) fun D acc P' q => ?_
  · obtain ⟨rfl, rfl⟩ := q
    have hi : i < l.length := by have := (List.getElem?_eq_some_iff.mp e).1; omega
    exact hs D i x l[i] e (List.getElem?_eq_getElem hi)
  · obtain ⟨rfl, rfl⟩ := q
    rw [hl, List.take_length]
    exact hd D
theorem e_lcGR {f : Nat → Option V} {n : Nat} [hw : Wip σ own σ0]
    (hs : ∀ D i, i < n → (List.range n)[i]? = some i → Ent (At (.ref D) (LstX (((List.range n).take i).filterMap f)) :: P) (fun H => g (.int (i : Nat)) σ0 H fun σ2 H2 => wipe σ2 (own.map (·.2)) = σ0 ∧ tt σ2 H2 fun b H3 => kIf b (te σ2 H3 (puC D (IG (List.range n) f P (i + 1)))) (nxC D (IG (List.range n) f P (i + 1)) H3)))
    (hd : ∀ D, Ent (At (.ref D) (LstX ((List.range n).filterMap f)) :: P) (fun H => Q (.ref D) H)) : Ent P (fun H => kLc (Itr 0 n) g tt te (own.map (·.2)) σ Q H) := by
  refine e_lcR0 hw.eq (fun i => IG (List.range n) f P i) ⟨by simp, rfl⟩ (fun D i acc P' e q => ?_) fun D acc P' q => ?_
  · obtain ⟨rfl, rfl⟩ := q
    exact hs D i e (List.getElem?_range e)
  · obtain ⟨rfl, rfl⟩ := q
    rw [List.take_of_length_le (by rw [List.length_range]; exact Nat.le_refl _)]
    exact hd D
/-! zip -/
def kIZ (K : PySem.W.Frag) : List V → Hp → (It → Hp → Prop) → Prop := fun vs H1 R => ∃ a b xs ys, vs = [.ref a, .ref b] ∧ SqL K H1 a xs ∧ SqL K H1 b ys ∧ R (Itz K a b) H1
instance rd_zip {K : PySem.W.Frag} {t : TA} {σ : St} {H : Hp} {R : It → Hp → Prop} : Rd (iZip K t σ H R) (t σ H fun vs H1 => kIZ K vs H1 R) := ⟨id⟩
instance sp_kIZ {R : It → Hp → Prop} [s1 : Sees P a (.lst xs)] [s2 : Sees P b (.lst ys)] : Stp P (fun H => kIZ K [.ref a, .ref b] H R) P (fun H => R (Itz K a b) H) := ⟨fun k H h => ⟨a, b, xs, ys, rfl, SqL.of (s1.sees H h), SqL.of (s2.sees H h), k H h⟩⟩
theorem e_lcZ (l : List α) (f : α → Option V) {xs ys : List V} (s1 : Sees P a (.lst xs)) (s2 : Sees P b (.lst ys)) [hw : Wip σ own σ0] (hl : min xs.length ys.length = l.length)
    (hs : ∀ D i T x y u, xs[i]? = some x → ys[i]? = some y → l[i]? = some u → Ent (At (.ref T) (KTup [x, y]) :: At (.ref D) (LstX ((l.take i).filterMap f)) :: P) (fun H => g (.ref T) σ0 H fun σ2 H2 => wipe σ2 (own.map (·.2)) = σ0 ∧ tt σ2 H2 fun b H3 => kIf b (te σ2 H3 (puC D (IG l f P (i + 1)))) (nxC D (IG l f P (i + 1)) H3)))
    (hd : ∀ D, Ent (At (.ref D) (LstX (l.filterMap f)) :: P) (fun H => Q (.ref D) H)) : Ent P (fun H => kLc (Itz K a b) g tt te (own.map (·.2)) σ Q H) := by
  refine e_lc (walk_zip (K := K) (a := a) (b := b) (xs := xs) (ys := ys) rfl) hw.eq (fun i => IG l f P i) ⟨by simp, rfl⟩ (fun i acc P' _ q H h => by rw [q.2] at h; exact ⟨SqL.of (s1.sees H h), SqL.of (s2.sees H h)⟩) (fun D i acc P' hi q x H H' s y => ?_) fun D acc P' q => ?_
  · obtain ⟨rfl, rfl⟩ := q
    obtain ⟨T, x, y, rfl, nT, rfl, e1, e2⟩ := y
    have hi' : i < l.length := by omega
    exact hs D i T x y l[i] e1 e2 (List.getElem?_eq_getElem hi') _ (s.newK nT ⟨T, rfl, upd_same⟩)
  · obtain ⟨rfl, rfl⟩ := q
    rw [hl, List.take_length]
    exact hd D
theorem filterMap_ints {f : α → Option Int} : l.filterMap (fun u => (f u).map V.int) = (l.filterMap f).map V.int := by
  induction l with
  | nil => rfl
  | cons u r ih => cases h : f u <;> simp [h, ih]
end
end Qn

/-! S4: more of lists. -/
namespace Qn
open PySem L2
local macro_rules | `(tactic| fail "ne") => `(tactic| first | assumption | (apply Ne.symm; assumption) | (apply ne_of_none; assumption; assumption) | (apply Ne.symm; apply ne_of_none; assumption; assumption) | (apply ne_of; assumption; assumption; (intro z; cases z)))
local macro_rules | `(tactic| fail "hp") => `(tactic| with_reducible first | assumption | apply upd_same | (apply upd_old; rotate_left; assumption; fail "hp") | (apply upd_oth; rotate_left; fail "ne"; fail "hp"))
local macro_rules | `(tactic| fail "sl") => `(tactic| with_reducible first | assumption | (apply SqL.of; fail "hp"))
local macro_rules | `(tactic| fail "st") => `(tactic| with_reducible first | assumption | (apply SqT.of; fail "hp"))
local macro_rules | `(tactic| fail "tx") => `(tactic| with_reducible first | assumption | (apply Txt.c_Reader; assumption) | (apply Txt.n_Reader_head; assumption) | (apply Txt.n_Reader_read_lines; assumption) | (apply Txt.n_Reader_read_tasks; assumption))
local macro_rules | `(tactic| fail "lk") => `(tactic| with_reducible first | assumption | apply lk_LF_rules | apply lk_LF_cards | apply lk_LF_rows | apply lk_LF_time | apply lk_CF_line | apply lk_CF_quantum | apply lk_CF_share | apply lk_CF_is_ready | apply lk_CF_spent | (apply lk_LF_no; decide +kernel; decide +kernel; decide +kernel; decide +kernel))
local macro_rules | `(tactic| fail "at") => `(tactic| with_reducible first | assumption | apply mc_0 | apply mc_1 | apply mc_2 | apply mc_3 | apply mc_4 | apply at_0 | apply at_1 | apply at_2 | apply at_3 | apply at_4 | (apply atI_nat; assumption) | (apply at_z; assumption))
local macro_rules | `(tactic| fail "go") => `(tactic| repeat (first
  | apply rd_step
  | with_reducible (first
    | (apply r_kFld; fail "hp"; fail "tx"; fail "tx"; fail "lk")
    | (apply r_ixL; fail "sl"; fail "at") | (apply r_ixT; fail "st"; fail "at")
    | (apply r_kMeth; fail "hp"; fail "lk") | (apply r_kBML; fail "sl")
    | (apply r_lenL; fail "sl") | (apply r_lenT; fail "st") | (apply r_lenD; fail "hp")
    | (apply r_kDGetI; fail "hp"; (first | assumption | rfl)) | (apply r_kDGetS; fail "hp"; (first | assumption | apply mv_rules | apply mv_rows | apply mv_cards | apply mv_now)) | (apply r_kDInI; fail "hp") | (apply r_kDNotInI; fail "hp")
    | (apply r_kAugF; fail "hp"; fail "tx"; fail "tx"; fail "lk")
    | (apply r_isi_tuple_tuple; fail "st") | (apply r_isi_list_tuple; fail "sl") | (apply r_isi_list_list; fail "sl") | (apply r_isi_tuple_list; fail "st")
    | (apply r_kUnT; fail "st"; with_unfolding_all rfl) | (apply r_kIL; fail "sl") | (apply r_kIT; fail "st") | (apply r_kIE; fail "st") )))
local macro_rules | `(tactic| fail "eg") => `(tactic| repeat (first
  | apply stp
  | (refine e_rul0 (fun _ => ?_))

  | (refine e_tup0 (fun _ => ?_)) ))
local macro_rules | `(tactic| fail "egs") => `(tactic| (try (with_reducible refine e_seq ?_)) <;> repeat (first
  | apply stp
  | (with_reducible refine e_seq ?_)
  | (refine e_rul0 (fun _ => ?_))

  | (refine e_tup0 (fun _ => ?_)) ))
theorem mem_tasks {S : LSt} {t : Int} {n : Nat} (w : Wf n [] S) : t ∈ tasksOf S ↔ ∃ c, look S.cards t = some c := by
  unfold tasksOf
  rw [List.mem_filter]
  constructor
  · rintro ⟨_, h⟩
    cases e : look S.cards t with
    | none => rw [e] at h; cases h
    | some c => exact ⟨c, rfl⟩
  · rintro ⟨c, e⟩
    exact ⟨mem_all20 ⟨(w.key t c e).1, (w.key t c e).2.1⟩, by rw [e]; rfl⟩
theorem tasks_len (S : LSt) : (tasksOf S).length ≤ 20 := by
  unfold tasksOf
  exact Nat.le_trans (List.length_filter_le _ _) (by decide)
theorem flat_rows {S : LSt} {i : Nat} {n : Nat} (w : Wf n [] S) (hn : 0 < n) (h : i < S.rows.length) : (S.rows.take i).flatten.length + (S.row i).length ≤ 20 := by
  have hrow := LSt.row_at (S := S) h
  have fl := flat_len w hn
  have e1 := flat_snoc hrow
  have e2 : ((S.rows.take (i + 1)).flatten).length ≤ S.rows.flatten.length := by
    conv => rhs; rw [← List.take_append_drop (i + 1) S.rows]
    rw [List.flatten_append, List.length_append]; omega
  rw [e1, List.length_append] at e2
  omega
section
variable {P F G : List As} {K : PySem.W.Frag} {σ : St} {Q : VK} {a p q d : Addr} {R : Hp → Prop} {xs ys : List V} {ns ms : List Int} {i : Nat} {qs rs : List Addr} {xss yss : List (List Int)}
theorem e_sorted [s : Sees P p (.lst (ns.map V.int))] (k : ∀ (q : Addr) (ns' : List Int), ns'.Perm ns → ns'.Pairwise (· ≤ ·) → Ent (At (.ref q) (LstX (ns'.map V.int)) :: P) (fun H => Q (.ref q) H)) : Ent P (fun H => rSortedI K [.ref p] H Q) := fun H h =>
  ⟨p, ns, rfl, SqL.of (s.sees H h), fun ns' q h1 h2 nq => k q ns' h1 h2 _ (h.new nq ⟨q, rfl, upd_same⟩ fun _ e => by cases e)⟩
theorem e_min [s : Sees P p (.lst (ns.map V.int))] (hn : 0 < ns.length) (k : ∀ m, m ∈ ns → (∀ y, y ∈ ns → m ≤ y) → Ent P (fun H => Q (.int m) H)) : Ent P (fun H => rMin K [.ref p] H Q) := fun H h => ⟨p, ns, rfl, SqL.of (s.sees H h), hn, fun m h1 h2 => k m h1 h2 H h⟩
theorem e_max [s : Sees P p (.lst (ns.map V.int))] (hn : 0 < ns.length) (k : ∀ m, m ∈ ns → (∀ y, y ∈ ns → y ≤ m) → Ent P (fun H => Q (.int m) H)) : Ent P (fun H => rMax K [.ref p] H Q) := fun H h => ⟨p, ns, rfl, SqL.of (s.sees H h), hn, fun m h1 h2 => k m h1 h2 H h⟩
instance (priority := 900) sp_neI [s : Sees P p (.lst (ns.map V.int))] [s2 : Sees P q (.lst (ms.map V.int))] : Stp P (fun H => rNeD K (.ref p) (.ref q) H Q) P (fun H => Q (.bl (!decide (ns = ms))) H) :=
  ⟨fun k H h => r_neD (dp_ints (SqL.of (s.sees H h))) (dp_ints (SqL.of (s2.sees H h))) (sh_ints.ok (by decide)) (sh_ints.ok (by decide)) (by rw [eqv_ints]; exact k H h)⟩
instance (priority := 900) sp_eqI [s : Sees P p (.lst (ns.map V.int))] [s2 : Sees P q (.lst (ms.map V.int))] : Stp P (fun H => rEqD K (.ref p) (.ref q) H Q) P (fun H => Q (.bl (decide (ns = ms))) H) :=
  ⟨fun k H h => r_eqD (dp_ints (SqL.of (s.sees H h))) (dp_ints (SqL.of (s2.sees H h))) (sh_ints.ok (by decide)) (sh_ints.ok (by decide)) (by rw [eqv_ints]; exact k H h)⟩
theorem sh_rows : Sh 2 (.list (xss.map fun r => .list (r.map .int))) := sh_lst (sh_map fun r => sh_ints)
instance (priority := 1100) sp_neR [t1 : Take P (.ref p) (KRows qs xss) F] [t2 : Take P (.ref q) (KRows rs yss) G] : Stp P (fun H => rNeD K (.ref p) (.ref q) H Q) P (fun H => Q (.bl (!decide (xss = yss))) H) :=
  ⟨fun k H h => r_neD ((has_rows (K := K) (t := t1)).has H h) ((has_rows (K := K) (t := t2)).has H h) (sh_rows.ok (by decide)) (sh_rows.ok (by decide)) (by rw [eqv_rows]; exact k H h)⟩
/-! lists of lists made -/
def RowF (qs : List Addr) (xss : List (List Int)) (k : Hp) : Prop := ∀ (i : Nat) (q : Addr) (xs : List Int), qs[i]? = some q → xss[i]? = some xs → k q = some (.lst (xs.map V.int))
theorem RowF.mono {k k' : Hp} (s : Same k k') (h : RowF qs xss k) : RowF qs xss k' := fun i q xs e1 e2 => s _ _ (h i q xs e1 e2)
theorem rowsK_of {k h : Hp} {D : Addr} (t : Take P (.ref D) (KRows qs xss) F) (s : SatL P k h) : Dp K k (.ref D) (.list (xss.map fun r => .list (r.map .int))) := by
  obtain ⟨h3, h4, t3, t4, z2, ⟨D', e, h1, h2, h3'⟩, pG⟩ := t.tk _ _ s
  cases e
  refine .lst (SqL.of h1) ?_
  have : ∀ (qs : List Addr) (xss : List (List Int)), qs.length = xss.length → (∀ (i : Nat) (q : Addr) (xs : List Int), qs[i]? = some q → xss[i]? = some xs → k q = some (.lst (xs.map V.int))) → DpAll K k (qs.map V.ref) (xss.map fun xs => .list (xs.map .int)) := by
    intro qs
    induction qs with
    | nil => intro xss hl _; cases xss with
      | nil => exact .nil
      | cons _ _ => cases hl
    | cons q qs ih =>
      intro xss hl hh
      cases xss with
      | nil => cases hl
      | cons xs xss => exact .cons (dp_ints (SqL.of (hh 0 q xs rfl rfl))) (ih xss (by simpa using hl) fun i q xs e1 e2 => hh (i + 1) q xs e1 e2)
  exact this qs xss h2 h3'
instance (priority := 1100) sp_eqR [t1 : Take P (.ref p) (KRows qs xss) F] [t2 : Take P (.ref q) (KRows rs yss) G] : Stp P (fun H => rEqD K (.ref p) (.ref q) H Q) P (fun H => Q (.bl (decide (xss = yss))) H) :=
  ⟨fun k H h => r_eqD ((has_rows (K := K) (t := t1)).has H h) ((has_rows (K := K) (t := t2)).has H h) (sh_rows.ok (by decide)) (sh_rows.ok (by decide)) (by rw [eqv_rows]; exact k H h)⟩
theorem rowF_drop {k h : Hp} {D : Addr} {m : Nat} (t : Take P (.ref D) (KRows qs xss) F) (s : SatL P k h) : RowF (qs.drop m) (xss.drop m) k := by
  obtain ⟨h3, h4, t3, t4, z2, ⟨D', e, h1, h2, h3'⟩, pG⟩ := t.tk _ _ s
  intro i q xs e1 e2
  rw [List.getElem?_drop] at e1 e2
  exact h3' (m + i) q xs e1 e2
/-! the same data -/
theorem e_eqSame {x y : V} (d : PyData) [h1 : HasD K P x d] [h2 : HasD K P y d] (s1 : Sh 60 d) (k : Ent P (fun H => Q (.bl true) H)) : Ent P (fun H => rEqD K x y H Q) :=
  e_eqD d d s1 s1 (by rw [PySem.SeqAt.eqv_refl d s1.1]; exact k)
theorem e_neSame {x y : V} (d : PyData) [h1 : HasD K P x d] [h2 : HasD K P y d] (s1 : Sh 60 d) (k : Ent P (fun H => Q (.bl false) H)) : Ent P (fun H => rNeD K x y H Q) :=
  e_neD d d s1 s1 (by rw [PySem.SeqAt.eqv_refl d s1.1]; exact k)
/-! tuples -/
theorem e_catT (zs : List V) {xs ys : List V} [s : Sees P p (.tup xs)] [s2 : Sees P q (.tup ys)] (e : xs ++ ys = zs) (hx : xs ≠ []) (hy : ys ≠ []) (hz : zs.length ≤ 1000) (k : ∀ l, Ent (At (.ref l) (KTup zs) :: P) (fun H => Q (.ref l) H)) : Ent P (fun H => rCatA K (.ref p) (.ref q) H Q) := by
  subst e
  exact fun H h => ⟨p, q, _, _, rfl, rfl, SqT.of (s.sees H h), SqT.of (s2.sees H h), Nat.le_trans (show xs.length + ys.length ≤ 1000 by rw [List.length_append] at hz; exact hz) (by decide), fun e => absurd e hx, fun _ e => absurd e hy, fun _ _ l nl => k l _ (h.newK nl ⟨l, rfl, upd_same⟩)⟩
theorem e_slT {lo hi : Option Int} [s : Sees P p (.tup xs)] (hw : ¬ (HT.sIx xs.length 0 lo = 0 ∧ HT.sIx xs.length xs.length hi = xs.length)) (k : ∀ q, Ent (At (.ref q) (KTup (cutV xs lo hi)) :: P) (fun H => Q (.ref q) H)) : Ent P (fun H => rSlA K (.ref p) lo hi H Q) :=
  fun H h => ⟨p, xs, rfl, SqT.of (s.sees H h), fun e => absurd e hw, fun _ l nl => k l _ (h.newK nl ⟨l, rfl, upd_same⟩)⟩
theorem atI_last {α : Type} {xs : List α} {x : α} : atI (xs ++ [x]) (-1) = some x := by
  unfold atI ixN
  rw [if_neg (by decide), List.length_append]
  have e1 : (0 : Int) ≤ -1 + ((xs.length + [x].length : Nat) : Int) := by show (0 : Int) ≤ -1 + ((xs.length + 1 : Nat) : Int); omega
  have e2 : (-1 + ((xs.length + [x].length : Nat) : Int)).toNat = xs.length := by show (-1 + ((xs.length + 1 : Nat) : Int)).toNat = _; omega
  have e3 : -((xs.length + [x].length : Nat) : Int) ≤ -1 := by show -((xs.length + 1 : Nat) : Int) ≤ -1; omega
  simp only [e1, e2, e3, if_true, Option.bind_some]
  simp
theorem e_mkRows [t : Take P (.ref p) (LstX (qs.map V.ref)) F] (hl : qs.length = xss.length) (hf : ∀ k h, SatL F k h → RowF qs xss k) {X : Hp → Prop} (e : Ent (At (.ref p) (KRows qs xss) :: F) X) : Ent P X :=
  e_frz (p := p) (o := .lst (qs.map V.ref)) (t := t) fun H s => e H (s.imp fun k h x => by
    obtain ⟨h1, h2, s1, s2, z, ⟨p', e', hp⟩, pF⟩ := x
    cases e'
    exact ⟨hnil, h2, same_nil, s2, apart_nil, ⟨p, rfl, hp, hl, hf k h2 pF⟩, pF⟩)
end
end Qn

/-! S5: while; numbers or None; dicts of numbers. -/
namespace Qn
open PySem L2
local macro_rules | `(tactic| fail "ne") => `(tactic| first | assumption | (apply Ne.symm; assumption) | (apply ne_of_none; assumption; assumption) | (apply Ne.symm; apply ne_of_none; assumption; assumption) | (apply ne_of; assumption; assumption; (intro z; cases z)))
local macro_rules | `(tactic| fail "hp") => `(tactic| with_reducible first | assumption | apply upd_same | (apply upd_old; rotate_left; assumption; fail "hp") | (apply upd_oth; rotate_left; fail "ne"; fail "hp"))
local macro_rules | `(tactic| fail "sl") => `(tactic| with_reducible first | assumption | (apply SqL.of; fail "hp"))
local macro_rules | `(tactic| fail "st") => `(tactic| with_reducible first | assumption | (apply SqT.of; fail "hp"))
local macro_rules | `(tactic| fail "tx") => `(tactic| with_reducible first | assumption | (apply Txt.c_Reader; assumption) | (apply Txt.n_Reader_head; assumption) | (apply Txt.n_Reader_read_lines; assumption) | (apply Txt.n_Reader_read_tasks; assumption))
local macro_rules | `(tactic| fail "lk") => `(tactic| with_reducible first | assumption | apply lk_LF_rules | apply lk_LF_cards | apply lk_LF_rows | apply lk_LF_time | apply lk_CF_line | apply lk_CF_quantum | apply lk_CF_share | apply lk_CF_is_ready | apply lk_CF_spent | (apply lk_LF_no; decide +kernel; decide +kernel; decide +kernel; decide +kernel))
local macro_rules | `(tactic| fail "at") => `(tactic| with_reducible first | assumption | apply mc_0 | apply mc_1 | apply mc_2 | apply mc_3 | apply mc_4 | apply at_0 | apply at_1 | apply at_2 | apply at_3 | apply at_4 | (apply atI_nat; assumption) | (apply at_z; assumption))
local macro_rules | `(tactic| fail "go") => `(tactic| repeat (first
  | apply rd_step
  | with_reducible (first
    | (apply r_kFld; fail "hp"; fail "tx"; fail "tx"; fail "lk")
    | (apply r_ixL; fail "sl"; fail "at") | (apply r_ixT; fail "st"; fail "at")
    | (apply r_kMeth; fail "hp"; fail "lk") | (apply r_kBML; fail "sl")
    | (apply r_lenL; fail "sl") | (apply r_lenT; fail "st") | (apply r_lenD; fail "hp")
    | (apply r_kDGetI; fail "hp"; (first | assumption | rfl)) | (apply r_kDGetS; fail "hp"; (first | assumption | apply mv_rules | apply mv_rows | apply mv_cards | apply mv_now)) | (apply r_kDInI; fail "hp") | (apply r_kDNotInI; fail "hp")
    | (apply r_kAugF; fail "hp"; fail "tx"; fail "tx"; fail "lk")
    | (apply r_isi_tuple_tuple; fail "st") | (apply r_isi_list_tuple; fail "sl") | (apply r_isi_list_list; fail "sl") | (apply r_isi_tuple_list; fail "st")
    | (apply r_kUnT; fail "st"; with_unfolding_all rfl) | (apply r_kIL; fail "sl") | (apply r_kIT; fail "st") | (apply r_kIE; fail "st") )))
local macro_rules | `(tactic| fail "eg") => `(tactic| repeat (first
  | apply stp
  | (refine e_rul0 (fun _ => ?_))

  | (refine e_tup0 (fun _ => ?_)) ))
local macro_rules | `(tactic| fail "egs") => `(tactic| (try (with_reducible refine e_seq ?_)) <;> repeat (first
  | apply stp
  | (with_reducible refine e_seq ?_)
  | (refine e_rul0 (fun _ => ?_))

  | (refine e_tup0 (fun _ => ?_)) ))
/-! ### while -/
inductive dnJ (J : Nat → St → List As → Prop) (m : Nat) (σ : St) (H : Hp) : Prop
  | mk (m' : Nat) (P : List As) (l : m' < m) (h : J m' σ P) (s : Sat P H) : dnJ J m σ H
def kWh (J : Nat → St → List As → Prop) (m : Nat) (tb : TS) (D : Ends) (σ : St) (b : Bool) (H1 : Hp) : Prop :=
  if b = true then ∃ N : St → Hp → Prop, (∀ σ' H', N σ' H' → ∃ m', m' < m ∧ nxJ J m' σ' H') ∧ tb { D with nx := N, ct := N, bk := D.nx } σ H1 else D.nx σ H1
section
variable {P P' F G : List As} {K : PySem.W.Frag} {σ : St} {Q : VK} {D : Ends} {a p q d : Addr} {R : Hp → Prop} {xs ys : List V} {ns ms : List Int} {i : Nat} {m : Nat} {J : Nat → St → List As → Prop} {c : TT} {tb : TS} {b : Bool} {t : Int}
theorem e_dn (h : ∃ m' P', m' < m ∧ J m' σ P' ∧ Imp P P') : Ent P (fun H => dnJ J m σ H) := fun H s => by
  obtain ⟨m', P', l, h, i⟩ := h
  exact ⟨m', P', l, h, s.imp i.imp⟩
theorem e_while (J : Nat → St → List As → Prop) {P0 : List As} (h0 : ∃ m, J m σ P0) [i : Imp P P0] (hs : ∀ m σ P, J m σ P → Ent P (fun H => c σ H fun b H1 => kWh J m tb D σ b H1)) : Ent P (fun H => tWhile c tb D σ H) := fun H s => by
  obtain ⟨m, h0⟩ := h0
  exact ⟨nxJ J, ⟨m, P0, h0, s.imp i.imp⟩, fun m σ H ⟨P, h, s⟩ => hs m σ P h H s⟩
theorem e_whT (e : Ent P (fun H => tb { D with nx := dnJ J m, ct := dnJ J m, bk := D.nx } σ H)) : Ent P (fun H => kWh J m tb D σ true H) := fun H s =>
  show kWh J m tb D σ true H from by
    unfold kWh
    rw [if_pos rfl]
    exact ⟨dnJ J m, fun σ' H' ⟨m', P, l, h, s⟩ => ⟨m', l, P, h, s⟩, e H s⟩
theorem e_whF (e : Ent P (fun H => D.nx σ H)) : Ent P (fun H => kWh J m tb D σ false H) := e
theorem e_wh (h1 : b = true → Ent P (fun H => tb { D with nx := dnJ J m, ct := dnJ J m, bk := D.nx } σ H)) (h2 : b = false → Ent P (fun H => D.nx σ H)) : Ent P (fun H => kWh J m tb D σ b H) := by
  cases b with
  | true => exact e_whT (h1 rfl)
  | false => exact e_whF (h2 rfl)
theorem e_whD {p : Prop} [Decidable p] (h1 : p → Ent P (fun H => tb { D with nx := dnJ J m, ct := dnJ J m, bk := D.nx } σ H)) (h2 : ¬ p → Ent P (fun H => D.nx σ H)) : Ent P (fun H => kWh J m tb D σ (decide p) H) := e_wh (fun h => h1 (of_decide_eq_true h)) fun h => h2 (of_decide_eq_false h)
theorem e_whN {p : Prop} [Decidable p] (h1 : ¬ p → Ent P (fun H => tb { D with nx := dnJ J m, ct := dnJ J m, bk := D.nx } σ H)) (h2 : p → Ent P (fun H => D.nx σ H)) : Ent P (fun H => kWh J m tb D σ (!decide p) H) := e_wh (fun h => h1 (by simpa using h)) fun h => h2 (by simpa using h)
/-! numbers or None -/
theorem bV_inj {o u : Option Int} : bV o = bV u ↔ o = u := by
  cases o <;> cases u <;> simp [bV]
instance rd_neO {o u : Option Int} {H : Hp} : Qn.Rd (rNe (bV o) (bV u) H Q) (Q (.bl (!decide (o = u))) H) := ⟨fun k => ⟨by cases o <;> cases u <;> rfl, by
  have e : decide (bV o = bV u) = decide (o = u) := by simp [bV_inj]
  rw [e]; exact k⟩⟩
instance rd_eqO {o u : Option Int} {H : Hp} : Qn.Rd (rEq (bV o) (bV u) H Q) (Q (.bl (decide (o = u))) H) := ⟨fun k => ⟨by cases o <;> cases u <;> rfl, by
  have e : decide (bV o = bV u) = decide (o = u) := by simp [bV_inj]
  rw [e]; exact k⟩⟩
instance rd_neIO {i : Int} {u : Option Int} {H : Hp} : Qn.Rd (rNe (.int i) (bV u) H Q) (Q (.bl (!decide (some i = u))) H) := ⟨fun k => (rd_neO (o := some i) (u := u) (H := H) (Q := Q)).by_ k⟩
instance rd_neOI {i : Int} {u : Option Int} {H : Hp} : Qn.Rd (rNe (bV u) (.int i) H Q) (Q (.bl (!decide (u = some i))) H) := ⟨fun k => (rd_neO (o := u) (u := some i) (H := H) (Q := Q)).by_ k⟩
instance rd_neON {u : Option Int} {H : Hp} : Qn.Rd (rNe (bV u) .non H Q) (Q (.bl (!decide (u = none))) H) := ⟨fun k => (rd_neO (o := u) (u := none) (H := H) (Q := Q)).by_ k⟩
instance rd_eqIO {i : Int} {u : Option Int} {H : Hp} : Qn.Rd (rEq (.int i) (bV u) H Q) (Q (.bl (decide (some i = u))) H) := ⟨fun k => (rd_eqO (o := some i) (u := u) (H := H) (Q := Q)).by_ k⟩
/-! a dict of numbers, of pairs -/
def PrI (ps : List Addr) (ts : List Int) (f : Int → Int) (k : Hp) : Prop := ∀ (i : Nat) (p : Addr) (t : Int), ps[i]? = some p → ts[i]? = some t → k p = some (.tup [.int t, .int (f t)])
theorem PrI.mono {ps : List Addr} {ts : List Int} {f : Int → Int} {k k' : Hp} (s : Same k k') (h : PrI ps ts f k) : PrI ps ts f k' := fun i p t e1 e2 => s _ _ (h i p t e1 e2)
theorem pairsI_of {H k : Hp} {f : Int → Int} (s : Same k H) : ∀ {ps : List Addr} {ts : List Int}, ps.length = ts.length → PrI ps ts f k →
    PySem.Paired (fun p kv => SqT K H p [kV kv.1, kv.2]) ps (ts.map fun t => ((Sum.inl t : Key), V.int (f t)))
  | [], [], _, _ => .nil
  | p :: ps, t :: ts, hl, h => .cons (SqT.of (s _ _ (h 0 p t rfl rfl))) (pairsI_of s (by simpa using hl) fun i p t e1 e2 => h (i + 1) p t e1 e2)
  | [], _ :: _, hl, _ => by cases hl
  | _ :: _, [], hl, _ => by cases hl
theorem e_dictI {ps : List Addr} {ts : List Int} {f : Int → Int} [s1 : Sees P a (.lst (ps.map V.ref))] (hl : ps.length = ts.length) (hp : ∀ k h, SatL P k h → PrI ps ts f k)
    (k : ∀ (d : Addr) (kvs : List (Key × V)), (∀ t, valV kvs (.inl t) = if t ∈ ts then some (.int (f t)) else none) → kvs.length ≤ ts.length → Ent (At (.ref d) (DctX kvs) :: P) (fun H => Q (.ref d) H)) : Ent P (fun H => cDictP K [.ref a] H Q) := fun H s => by
  have sH := s1.sees H s
  have s' := s
  obtain ⟨g, h, z1, z2, ap, nt, y⟩ := s'
  refine ⟨a, ps, _, rfl, SqL.of sH, pairsI_of z1 hl (hp g h y), fun d nd => k d _ (fun t => ?_) ?_ _ (s.new nd ⟨d, rfl, upd_same⟩ fun _ e => by cases e)⟩
  · have mv := merge_val (G := fun t v => v = .int (f t)) (kvs := ts.map fun t => ((Sum.inl t : Key), V.int (f t))) (acc := []) (t := t) fun p hp => by
      obtain ⟨u, _, rfl⟩ := List.mem_map.mp hp
      exact ⟨u, rfl, rfl⟩
    by_cases ht : t ∈ ts
    · rw [if_pos ht]
      obtain ⟨v, e, rfl⟩ := mv.1 ⟨_, List.mem_map.mpr ⟨t, ht, rfl⟩, rfl⟩
      exact e
    · rw [if_neg ht]
      rw [mv.2 fun p hp z => by
        obtain ⟨u, hu, rfl⟩ := List.mem_map.mp hp
        exact ht (Sum.inl.inj z ▸ hu)]
      rfl
  · have := merge_len (kvs := ts.map fun t => ((Sum.inl t : Key), V.int (f t))) (acc := [])
    rw [List.length_map] at this
    simpa using this
end
end Qn

/-! S6: dicts walked. -/
namespace Qn
open PySem L2
local macro_rules | `(tactic| fail "ne") => `(tactic| first | assumption | (apply Ne.symm; assumption) | (apply ne_of_none; assumption; assumption) | (apply Ne.symm; apply ne_of_none; assumption; assumption) | (apply ne_of; assumption; assumption; (intro z; cases z)))
local macro_rules | `(tactic| fail "hp") => `(tactic| with_reducible first | assumption | apply upd_same | (apply upd_old; rotate_left; assumption; fail "hp") | (apply upd_oth; rotate_left; fail "ne"; fail "hp"))
local macro_rules | `(tactic| fail "sl") => `(tactic| with_reducible first | assumption | (apply SqL.of; fail "hp"))
local macro_rules | `(tactic| fail "st") => `(tactic| with_reducible first | assumption | (apply SqT.of; fail "hp"))
local macro_rules | `(tactic| fail "tx") => `(tactic| with_reducible first | assumption | (apply Txt.c_Reader; assumption) | (apply Txt.n_Reader_head; assumption) | (apply Txt.n_Reader_read_lines; assumption) | (apply Txt.n_Reader_read_tasks; assumption))
local macro_rules | `(tactic| fail "lk") => `(tactic| with_reducible first | assumption | apply lk_LF_rules | apply lk_LF_cards | apply lk_LF_rows | apply lk_LF_time | apply lk_CF_line | apply lk_CF_quantum | apply lk_CF_share | apply lk_CF_is_ready | apply lk_CF_spent | (apply lk_LF_no; decide +kernel; decide +kernel; decide +kernel; decide +kernel))
local macro_rules | `(tactic| fail "at") => `(tactic| with_reducible first | assumption | apply mc_0 | apply mc_1 | apply mc_2 | apply mc_3 | apply mc_4 | apply at_0 | apply at_1 | apply at_2 | apply at_3 | apply at_4 | (apply atI_nat; assumption) | (apply at_z; assumption))
local macro_rules | `(tactic| fail "go") => `(tactic| repeat (first
  | apply rd_step
  | with_reducible (first
    | (apply r_kFld; fail "hp"; fail "tx"; fail "tx"; fail "lk")
    | (apply r_ixL; fail "sl"; fail "at") | (apply r_ixT; fail "st"; fail "at")
    | (apply r_kMeth; fail "hp"; fail "lk") | (apply r_kBML; fail "sl")
    | (apply r_lenL; fail "sl") | (apply r_lenT; fail "st") | (apply r_lenD; fail "hp")
    | (apply r_kDGetI; fail "hp"; (first | assumption | rfl)) | (apply r_kDGetS; fail "hp"; (first | assumption | apply mv_rules | apply mv_rows | apply mv_cards | apply mv_now)) | (apply r_kDInI; fail "hp") | (apply r_kDNotInI; fail "hp")
    | (apply r_kAugF; fail "hp"; fail "tx"; fail "tx"; fail "lk")
    | (apply r_isi_tuple_tuple; fail "st") | (apply r_isi_list_tuple; fail "sl") | (apply r_isi_list_list; fail "sl") | (apply r_isi_tuple_list; fail "st")
    | (apply r_kUnT; fail "st"; with_unfolding_all rfl) | (apply r_kIL; fail "sl") | (apply r_kIT; fail "st") | (apply r_kIE; fail "st") )))
local macro_rules | `(tactic| fail "eg") => `(tactic| repeat (first
  | apply stp
  | (refine e_rul0 (fun _ => ?_))

  | (refine e_tup0 (fun _ => ?_)) ))
local macro_rules | `(tactic| fail "egs") => `(tactic| (try (with_reducible refine e_seq ?_)) <;> repeat (first
  | apply stp
  | (with_reducible refine e_seq ?_)
  | (refine e_rul0 (fun _ => ?_))

  | (refine e_tup0 (fun _ => ?_)) ))
/-! ### a dict walked -/
def kUnl (d : Addr) (od : Obj) (kvs : List (Key × V)) (Q : VK) : VK := fun v H' => H' d = some (.frz od (.dK kvs)) ∧ Q v (upd H' d (.dK kvs))
abbrev FrzX (od : Obj) (kvs : List (Key × V)) : Ty := Cel (.frz od (.dK kvs))
def kIK (x : V) (H1 : Hp) (R : It → Hp → Prop) : Prop := ∃ d o, x = .ref d ∧ ((∃ kvs, H1 d = some (.frz o (.dK kvs)) ∧ R (Itk d o kvs) H1) ∨ ∃ kvs, H1 d = some (.frz o (.dT kvs)) ∧ R (Itkt d o kvs) H1)
instance rd_iKeys {td : TE} {σ : St} {H : Hp} {R : It → Hp → Prop} : Rd (iKeys td σ H R) (td σ H fun x H1 => kIK x H1 R) := ⟨id⟩
section
variable {P P' F G : List As} {K : PySem.W.Frag} {σ σ0 : St} {Q : VK} {D a p q d : Addr} {R : Hp → Prop} {xs ys vs : List V} {ts : List Int} {i : Nat} {t : Int} {v : V} {te : TE} {tt : TT} {g : TG} {kvs : List (Key × V)} {kv : Key × V} {od : Obj} {own : List (Str × Nat)}
theorem e_lockE (d : Addr) [tk : Take P (.ref d) (DctX kvs) F] (k : ∀ od, Ent (At (.ref d) (FrzX od kvs) :: F) (fun H => te σ H (kUnl d od kvs Q))) : Ent P (fun H => tLockE te σ H Q) := fun H s => by
  have s' := s.imp tk.tk
  exact ⟨d, .dK kvs, Sat.sees (F := F) s', trivial, fun od => k od _ (s'.set _ fun _ e => by cases e)⟩
theorem e_unl (tk : Take P (.ref d) (FrzX od kvs) F) (k : Ent (At (.ref d) (DctX kvs) :: F) (fun H => Q v H)) : Ent P (fun H => kUnl d od kvs Q v H) := fun H s => by
  have s' := s.imp tk.tk
  exact ⟨Sat.sees (F := F) s', k _ (s'.set _ fun _ e => by cases e)⟩
instance sp_kIK {R : It → Hp → Prop} [s : Sees P d (.frz od (.dK kvs))] : Stp P (fun H => kIK (.ref d) H R) P (fun H => R (Itk d od kvs) H) := ⟨fun k H h => ⟨d, od, rfl, .inl ⟨kvs, s.sees H h, k H h⟩⟩⟩
/-- reading of a dict that is walked -/
theorem e_dgetF (e : valV kvs (.inl t) = some v) [s : Sees P p (.frz od (.dK kvs))] (k : Ent P (fun H => Q v H)) : Ent P (fun H => kDGet (.ref p) (.int t) H Q) := fun H h =>
  ⟨p, v, rfl, .inl ⟨kvs, .inl t, .inr ⟨od, s.sees H h⟩, rfl, e.symm⟩, k H h⟩
theorem e_kel {X : Hp → Prop} (p : Addr) (o : HO) (f : ∀ k h, SatL P k h → k p = some o) (e : Ent (At (.ref p) (Kel o) :: P) X) : Ent P X := fun H s => e H (s.imp fun k h x => ⟨hnil, h, same_nil, Same.refl _, apart_nil, ⟨p, rfl, f k h x⟩, x⟩)
theorem e_fact {φ : Prop} {X : Hp → Prop} (f : ∀ k h, SatL P k h → φ) (e : φ → Ent P X) : Ent P X := fun H s => by
  have s' := s
  obtain ⟨k, h, _, _, _, _, y⟩ := s'
  exact e (f k h y) H s
/-! a dict by its keys' and values' lists -/
def dkv (ts : List Int) (vs : List V) : List (Key × V) := (ts.zip vs).map fun p => ((Sum.inl p.1 : Key), p.2)
theorem dkv_len (h : ts.length = vs.length) : (dkv ts vs).length = ts.length := by unfold dkv; rw [List.length_map, List.length_zip]; omega
theorem dkv_none : ∀ {ts : List Int} {vs : List V}, t ∉ ts → valV (dkv ts vs) (.inl t) = none
  | [], _, _ => rfl
  | _ :: _, [], _ => rfl
  | u :: ts, v :: vs, h => by
    show valV ((Sum.inl u, v) :: dkv ts vs) (.inl t) = none
    rw [valV_neg (fun z => h (by rw [Sum.inl.inj z]; exact List.mem_cons_self)), dkv_none fun z => h (List.mem_cons_of_mem _ z)]
theorem dkv_at : ∀ {ts : List Int} {vs : List V} {i : Nat}, ts.Nodup → ts[i]? = some t → vs[i]? = some v → valV (dkv ts vs) (.inl t) = some v
  | u :: ts, w :: vs, 0, _, e1, e2 => by
    cases Option.some.inj e1; cases Option.some.inj e2
    show valV ((Sum.inl _, _) :: dkv ts vs) _ = _
    rw [valV_pos rfl]
  | u :: ts, w :: vs, i + 1, nd, e1, e2 => by
    have nd' := List.nodup_cons.mp nd
    show valV ((Sum.inl u, w) :: dkv ts vs) (.inl t) = some v
    rw [valV_neg (fun z => nd'.1 (by rw [Sum.inl.inj z]; exact List.mem_of_getElem? (show ts[i]? = some t from e1)))]
    exact dkv_at nd'.2 e1 e2
theorem dkv_key (h : (dkv ts vs)[i]? = some kv) : ∃ t v, ts[i]? = some t ∧ vs[i]? = some v ∧ kv = (.inl t, v) := by
  unfold dkv at h
  rw [List.getElem?_map] at h
  obtain ⟨p, e, rfl⟩ := Option.map_eq_some_iff.mp h
  rw [List.getElem?_zip_eq_some] at e
  exact ⟨p.1, p.2, e.1, e.2, rfl⟩
theorem merge_dkv : ∀ {ts : List Int} {vs : List V} {acc : List (Key × V)}, ts.Nodup → (∀ t ∈ ts, valV acc (.inl t) = none) → mergeK acc (dkv ts vs) = acc ++ dkv ts vs
  | [], _, acc, _, _ => by show acc = acc ++ []; rw [List.append_nil]
  | _ :: _, [], acc, _, _ => by show acc = acc ++ []; rw [List.append_nil]
  | t :: ts, v :: vs, acc, nd, h => by
    have nd' := List.nodup_cons.mp nd
    show mergeK (putK acc (.inl t) v) (dkv ts vs) = acc ++ ((Sum.inl t, v) :: dkv ts vs)
    rw [putK_new _ (h t List.mem_cons_self), merge_dkv nd'.2 fun u hu => ?_]
    · simp
    · rw [← putK_new v (h t List.mem_cons_self), valV_put, if_neg (fun z => nd'.1 (by rw [← Sum.inl.inj z]; exact hu))]
      exact h u (List.mem_cons_of_mem _ hu)
def PrV (ps : List Addr) (ts : List Int) (vs : List V) (k : Hp) : Prop := ∀ (i : Nat) (p : Addr) (t : Int) (v : V), ps[i]? = some p → ts[i]? = some t → vs[i]? = some v → k p = some (.tup [.int t, v])
theorem PrV.mono {ps : List Addr} {k k' : Hp} (s : Same k k') (h : PrV ps ts vs k) : PrV ps ts vs k' := fun i p t v e1 e2 e3 => s _ _ (h i p t v e1 e2 e3)
theorem pairsV_of {H k : Hp} (s : Same k H) : ∀ {ps : List Addr} {ts : List Int} {vs : List V}, ps.length = ts.length → ps.length = vs.length → PrV ps ts vs k → PySem.Paired (fun p kv => SqT K H p [kV kv.1, kv.2]) ps (dkv ts vs)
  | [], [], [], _, _, _ => .nil
  | p :: ps, t :: ts, v :: vs, hl, hl2, h => .cons (SqT.of (s _ _ (h 0 p t v rfl rfl rfl))) (pairsV_of s (by simpa using hl) (by simpa using hl2) fun i p t v e1 e2 e3 => h (i + 1) p t v e1 e2 e3)
  | [], _ :: _, _, hl, _, _ => by cases hl
  | [], [], _ :: _, _, hl, _ => by cases hl
  | _ :: _, [], _, hl, _, _ => by cases hl
  | _ :: _, _ :: _, [], _, hl, _ => by cases hl
theorem e_dictV {ps : List Addr} [s1 : Sees P a (.lst (ps.map V.ref))] (hl : ps.length = ts.length) (hl2 : ps.length = vs.length) (nd : ts.Nodup) (hp : ∀ k h, SatL P k h → PrV ps ts vs k)
    (k : ∀ d, Ent (At (.ref d) (DctX (dkv ts vs)) :: P) (fun H => Q (.ref d) H)) : Ent P (fun H => cDictP K [.ref a] H Q) := fun H s => by
  have sH := s1.sees H s
  have s' := s
  obtain ⟨g, h, z1, z2, ap, nt, y⟩ := s'
  refine ⟨a, ps, _, rfl, SqL.of sH, pairsV_of z1 hl hl2 (hp g h y), fun d nd' => ?_⟩
  rw [merge_dkv nd fun t _ => rfl]
  exact k d _ (s.new nd' ⟨d, rfl, upd_same⟩ fun _ e => by cases e)
/-- a list told of the keys -/
theorem e_lcK {f : Int → Option V} [s : Sees P d (.frz od (.dK (dkv ts vs)))] [hw : Wip σ own σ0] (hl : ts.length = vs.length)
    (hs : ∀ D i t, ts[i]? = some t → Ent (At (.ref D) (LstX ((ts.take i).filterMap f)) :: P) (fun H => g (.int t) σ0 H fun σ2 H2 => wipe σ2 (own.map (·.2)) = σ0 ∧ tt σ2 H2 fun b H3 => kIf b (te σ2 H3 (puC D (IG ts f P (i + 1)))) (nxC D (IG ts f P (i + 1)) H3)))
    (hd : ∀ D, Ent (At (.ref D) (LstX (ts.filterMap f)) :: P) (fun H => Q (.ref D) H)) : Ent P (fun H => kLc (Itk d od (dkv ts vs)) g tt te (own.map (·.2)) σ Q H) := by
  refine e_lc (walk_keys (d := d) (o := od) (kvs := dkv ts vs)) hw.eq (fun i => IG ts f P i) ⟨by simp, rfl⟩ (fun i acc P' _ q H h => by rw [q.2] at h; exact s.sees H h) (fun D i acc P' hi q x H H' sS y => ?_) fun D acc P' q => ?_
  · obtain ⟨rfl, rfl⟩ := q
    obtain ⟨rfl, k, v, e, rfl⟩ := y
    obtain ⟨t, v', e1, e2, e3⟩ := dkv_key e
    cases e3
    exact hs D i t e1 _ sS
  · obtain ⟨rfl, rfl⟩ := q
    rw [dkv_len hl, List.take_length]
    exact hd D
end
end Qn

/-! S7: dicts of numbers as pairs; pop, setdefault. -/
namespace Qn
open PySem L2
local macro_rules | `(tactic| fail "ne") => `(tactic| first | assumption | (apply Ne.symm; assumption) | (apply ne_of_none; assumption; assumption) | (apply Ne.symm; apply ne_of_none; assumption; assumption) | (apply ne_of; assumption; assumption; (intro z; cases z)))
local macro_rules | `(tactic| fail "hp") => `(tactic| with_reducible first | assumption | apply upd_same | (apply upd_old; rotate_left; assumption; fail "hp") | (apply upd_oth; rotate_left; fail "ne"; fail "hp"))
local macro_rules | `(tactic| fail "sl") => `(tactic| with_reducible first | assumption | (apply SqL.of; fail "hp"))
local macro_rules | `(tactic| fail "st") => `(tactic| with_reducible first | assumption | (apply SqT.of; fail "hp"))
local macro_rules | `(tactic| fail "tx") => `(tactic| with_reducible first | assumption | (apply Txt.c_Reader; assumption) | (apply Txt.n_Reader_head; assumption) | (apply Txt.n_Reader_read_lines; assumption) | (apply Txt.n_Reader_read_tasks; assumption))
local macro_rules | `(tactic| fail "lk") => `(tactic| with_reducible first | assumption | apply lk_LF_rules | apply lk_LF_cards | apply lk_LF_rows | apply lk_LF_time | apply lk_CF_line | apply lk_CF_quantum | apply lk_CF_share | apply lk_CF_is_ready | apply lk_CF_spent | (apply lk_LF_no; decide +kernel; decide +kernel; decide +kernel; decide +kernel))
local macro_rules | `(tactic| fail "at") => `(tactic| with_reducible first | assumption | apply mc_0 | apply mc_1 | apply mc_2 | apply mc_3 | apply mc_4 | apply at_0 | apply at_1 | apply at_2 | apply at_3 | apply at_4 | (apply atI_nat; assumption) | (apply at_z; assumption))
local macro_rules | `(tactic| fail "go") => `(tactic| repeat (first
  | apply rd_step
  | with_reducible (first
    | (apply r_kFld; fail "hp"; fail "tx"; fail "tx"; fail "lk")
    | (apply r_ixL; fail "sl"; fail "at") | (apply r_ixT; fail "st"; fail "at")
    | (apply r_kMeth; fail "hp"; fail "lk") | (apply r_kBML; fail "sl")
    | (apply r_lenL; fail "sl") | (apply r_lenT; fail "st") | (apply r_lenD; fail "hp")
    | (apply r_kDGetI; fail "hp"; (first | assumption | rfl)) | (apply r_kDGetS; fail "hp"; (first | assumption | apply mv_rules | apply mv_rows | apply mv_cards | apply mv_now)) | (apply r_kDInI; fail "hp") | (apply r_kDNotInI; fail "hp")
    | (apply r_kAugF; fail "hp"; fail "tx"; fail "tx"; fail "lk")
    | (apply r_isi_tuple_tuple; fail "st") | (apply r_isi_list_tuple; fail "sl") | (apply r_isi_list_list; fail "sl") | (apply r_isi_tuple_list; fail "st")
    | (apply r_kUnT; fail "st"; with_unfolding_all rfl) | (apply r_kIL; fail "sl") | (apply r_kIT; fail "st") | (apply r_kIE; fail "st") )))
local macro_rules | `(tactic| fail "eg") => `(tactic| repeat (first
  | apply stp
  | (refine e_rul0 (fun _ => ?_))

  | (refine e_tup0 (fun _ => ?_)) ))
local macro_rules | `(tactic| fail "egs") => `(tactic| (try (with_reducible refine e_seq ?_)) <;> repeat (first
  | apply stp
  | (with_reducible refine e_seq ?_)
  | (refine e_rul0 (fun _ => ?_))

  | (refine e_tup0 (fun _ => ?_)) ))
def dki (ps : List (Int × Int)) : List (Key × V) := ps.map fun p => ((Sum.inl p.1 : Key), V.int p.2)
section
variable {ps : List (Int × Int)} {t z i : Int} {v : V}
theorem dki_dkv : dki ps = dkv (ps.map Prod.fst) (ps.map fun p => V.int p.2) := by
  induction ps with
  | nil => rfl
  | cons p r ih => show (_ :: dki r) = _ :: dkv _ _; rw [ih]
theorem dki_len : (dki ps).length = ps.length := by unfold dki; rw [List.length_map]
theorem dki_val (nd : (ps.map Prod.fst).Nodup) (h : (t, z) ∈ ps) : valV (dki ps) (.inl t) = some (.int z) := by
  obtain ⟨i, hi, e⟩ := List.mem_iff_getElem.mp h
  rw [dki_dkv]
  refine dkv_at (i := i) nd ?_ ?_
  · rw [List.getElem?_map, List.getElem?_eq_getElem hi, e]; rfl
  · rw [List.getElem?_map, List.getElem?_eq_getElem hi, e]; rfl
theorem dki_none (h : t ∉ ps.map Prod.fst) : valV (dki ps) (.inl t) = none := by rw [dki_dkv]; exact dkv_none h
theorem dki_drop : dropK (dki ps) (.inl t) = dki (popI ps t) := by
  induction ps with
  | nil => rfl
  | cons p r ih =>
    unfold dki popI dropK at ih ⊢
    rw [List.map_cons, List.filter_cons, List.filter_cons]
    by_cases e : p.1 = t
    · simp only [e]; simpa using ih
    · have e2 : ¬ (Sum.inl p.1 : Key) = Sum.inl t := fun z => e (Sum.inl.inj z)
      simp only [e, e2, ne_eq, not_false_eq_true, decide_true, if_true, List.map_cons]
      rw [ih]
theorem popI_none (h : t ∉ ps.map Prod.fst) : popI ps t = ps := List.filter_eq_self.mpr fun p hp => by
  have : ¬ p.1 = t := fun e => h (by rw [← e]; exact List.mem_map.mpr ⟨p, hp, rfl⟩)
  simpa using this
theorem dki_put (h : t ∉ ps.map Prod.fst) : putK (dki ps) (.inl t) (.int z) = dki (ps ++ [(t, z)]) := by
  rw [putK_new _ (dki_none h)]
  unfold dki
  rw [List.map_append]; rfl
end
/-! pop, setdefault -/
def kPopE (x y : V) (H : Hp) (Q : VK) : Prop := ∃ a kvs k v, x = .ref a ∧ H a = some (.dK kvs) ∧ y = kV k ∧ valV kvs k = some v ∧ Q v (upd H a (.dK (dropK kvs k)))
def kPopD (x y z : V) (H : Hp) (Q : VK) : Prop := ∃ a kvs k, x = .ref a ∧ H a = some (.dK kvs) ∧ y = kV k ∧ (∀ v, valV kvs k = some v → Q v (upd H a (.dK (dropK kvs k)))) ∧ (valV kvs k = none → Q z H)
def kSetE (x y z : V) (H : Hp) (Q : VK) : Prop := ∃ a kvs k, x = .ref a ∧ H a = some (.dK kvs) ∧ y = kV k ∧ kvs.length < sizeLine ∧ (∀ v, valV kvs k = some v → Q v H) ∧ (valV kvs k = none → Q z (upd H a (.dK (putK kvs k z))))
def kPop2 (ty tx : TE) (σ : St) (x : V) (H : Hp) (Q : VK) : Prop := ∃ a, x = .ref a ∧ IsD H a ∧ ty σ H fun y H2 => tx σ H2 fun z H3 => ∃ kvs k, H3 a = some (.dK kvs) ∧ y = kV k ∧
  (∀ v, valV kvs k = some v → Q v (upd H3 a (.dK (dropK kvs k)))) ∧ (valV kvs k = none → Q z H3)
def kSetd (ty tx : TE) (σ : St) (x : V) (H : Hp) (Q : VK) : Prop := ∃ a, x = .ref a ∧ IsD H a ∧ ty σ H fun y H2 => tx σ H2 fun z H3 => ∃ (kvs : List (Key × V)) (k : Key), H3 a = some (.dK kvs) ∧ y = kV k ∧ kvs.length < sizeLine ∧
  (∀ v, valV kvs k = some v → Q v H3) ∧ (valV kvs k = none → Q z (upd H3 a (.dK (putK kvs k z))))
instance rd_pop2 {td ty tx : TE} {σ : St} {H : Hp} {Q : VK} : Qn.Rd (tDPop2 td ty tx σ H Q) (td σ H fun x H1 => kPop2 ty tx σ x H1 Q) := ⟨id⟩
instance rd_setd {td ty tx : TE} {σ : St} {H : Hp} {Q : VK} : Qn.Rd (tDSetd td ty tx σ H Q) (td σ H fun x H1 => kSetd ty tx σ x H1 Q) := ⟨id⟩
section
variable {P P' F G : List As} {σ : St} {Q : VK} {a p q d : Addr} {kvs : List (Key × V)} {ty tx : TE} {ps : List (Int × Int)} {t z : Int} {y : V}
theorem e_popA {X : VK} [s : Sees P d (.dK kvs)] (hX : ∀ y H2 , kPopE (.ref d) y H2 Q → X y H2) (k : Ent P (fun H => ty σ H X)) (e : X = fun y H2 => kPopE (.ref d) y H2 Q) : Ent P (fun H => kPop1 ty σ (.ref d) H Q) := fun H h => by
  subst e
  refine ⟨d, rfl, .inl ⟨kvs, .inl (s.sees H h)⟩, ?_⟩
  have e2 : (fun y H2 => ∃ kvs k v, H2 d = some (.dK kvs) ∧ y = kV k ∧ valV kvs k = some v ∧ Q v (upd H2 d (.dK (dropK kvs k)))) = fun y H2 => kPopE (.ref d) y H2 Q := by
    funext y H2
    exact propext ⟨fun ⟨kvs, k, v, e1, e2, e3, e4⟩ => ⟨d, kvs, k, v, rfl, e1, e2, e3, e4⟩, fun ⟨_, kvs, k, v, e, e1, e2, e3, e4⟩ => by cases e; exact ⟨kvs, k, v, e1, e2, e3, e4⟩⟩
  rw [e2]
  exact k H h
instance sp_pop1 [s : Sees P d (.dK kvs)] : Stp P (fun H => kPop1 ty σ (.ref d) H Q) P (fun H => ty σ H fun y H2 => kPopE (.ref d) y H2 Q) := ⟨fun k => e_popA (fun _ _ h => h) k rfl⟩
instance sp_pop2 [s : Sees P d (.dK kvs)] : Stp P (fun H => kPop2 ty tx σ (.ref d) H Q) P (fun H => ty σ H fun y H2 => tx σ H2 fun z H3 => kPopD (.ref d) y z H3 Q) := ⟨fun k H h => by
  refine ⟨d, rfl, .inl ⟨kvs, .inl (s.sees H h)⟩, ?_⟩
  have e2 : ∀ y z H3, (∃ kvs k, H3 d = some (.dK kvs) ∧ y = kV k ∧ (∀ v, valV kvs k = some v → Q v (upd H3 d (.dK (dropK kvs k)))) ∧ (valV kvs k = none → Q z H3)) = kPopD (.ref d) y z H3 Q := fun y z H3 =>
    propext ⟨fun ⟨kvs, k, e1, e2, e3, e4⟩ => ⟨d, kvs, k, rfl, e1, e2, e3, e4⟩, fun ⟨_, kvs, k, e, e1, e2, e3, e4⟩ => by cases e; exact ⟨kvs, k, e1, e2, e3, e4⟩⟩
  simp only [e2]
  exact k H h⟩
instance sp_setd [s : Sees P d (.dK kvs)] : Stp P (fun H => kSetd ty tx σ (.ref d) H Q) P (fun H => ty σ H fun y H2 => tx σ H2 fun z H3 => kSetE (.ref d) y z H3 Q) := ⟨fun k H h => by
  refine ⟨d, rfl, .inl ⟨kvs, .inl (s.sees H h)⟩, ?_⟩
  have e2 : ∀ y z H3, (∃ (kvs : List (Key × V)) (k : Key), H3 d = some (.dK kvs) ∧ y = kV k ∧ kvs.length < sizeLine ∧ (∀ v, valV kvs k = some v → Q v H3) ∧ (valV kvs k = none → Q z (upd H3 d (.dK (putK kvs k z))))) = kSetE (.ref d) y z H3 Q := fun y z H3 =>
    propext ⟨fun ⟨kvs, k, e1, e2, e3, e4⟩ => ⟨d, kvs, k, rfl, e1, e2, e3, e4⟩, fun ⟨_, kvs, k, e, e1, e2, e3, e4⟩ => by cases e; exact ⟨kvs, k, e1, e2, e3, e4⟩⟩
  simp only [e2]
  exact k H h⟩
/-- a dict of numbers -/
theorem e_popE [tk : Take P (.ref d) (DctX (dki ps)) F] (nd : (ps.map Prod.fst).Nodup) (h : (t, z) ∈ ps) (k : Ent (At (.ref d) (DctX (dki (popI ps t))) :: F) (fun H => Q (.int z) H)) : Ent P (fun H => kPopE (.ref d) (.int t) H Q) := fun H s => by
  have s' := s.imp tk.tk
  refine ⟨d, dki ps, .inl t, .int z, rfl, Sat.sees (F := F) s', rfl, dki_val nd h, ?_⟩
  rw [dki_drop]
  exact k _ (s'.set _ fun _ e => by cases e)
theorem e_popD [tk : Take P (.ref d) (DctX (dki ps)) F] (k : ∀ v, Ent (At (.ref d) (DctX (dki (popI ps t))) :: F) (fun H => Q v H)) : Ent P (fun H => kPopD (.ref d) (.int t) y H Q) := fun H s => by
  have s' := s.imp tk.tk
  refine ⟨d, dki ps, .inl t, rfl, Sat.sees (F := F) s', rfl, fun v _ => ?_, fun e => ?_⟩
  · rw [dki_drop]
    exact k v _ (s'.set _ fun _ e => by cases e)
  · have hn : t ∉ ps.map Prod.fst := fun z => by
      rw [dki_dkv] at e
      obtain ⟨i, hi, e1⟩ := List.mem_iff_getElem.mp z
      rw [List.length_map] at hi
      have := valV_any (Sum.inl t) (dkv (ps.map Prod.fst) (ps.map fun p => V.int p.2))
      rw [e, ← dki_dkv] at this
      have h2 : ((dki ps).any fun kv => decide (kv.1 = Sum.inl t)) = true := by
        rw [List.any_eq_true]
        refine ⟨_, List.mem_map.mpr ⟨ps[i], List.getElem_mem hi, rfl⟩, ?_⟩
        rw [List.getElem_map] at e1
        simp [e1]
      rw [h2] at this
      cases this
    have h2 := k y
    rw [popI_none hn] at h2
    exact h2 H s'
theorem e_setE [tk : Take P (.ref d) (DctX (dki ps)) F] (hl : ps.length < 1000) (k : ∀ v, Ent (At (.ref d) (DctX (dki (putI ps t z))) :: F) (fun H => Q v H)) : Ent P (fun H => kSetE (.ref d) (.int t) (.int z) H Q) := fun H s => by
  have s' := s.imp tk.tk
  refine ⟨d, dki ps, .inl t, rfl, Sat.sees (F := F) s', rfl, Nat.lt_of_lt_of_le (by rw [dki_len]; exact hl) (by decide), fun v e => ?_, fun e => ?_⟩
  · have hn : t ∈ ps.map Prod.fst := Classical.byContradiction fun z => by rw [dki_none z] at e; cases e
    have h2 := k v
    unfold putI at h2
    rw [if_pos hn] at h2
    exact h2 H s'
  · have hn : t ∉ ps.map Prod.fst := fun z => by
      have := valV_any (Sum.inl t) (dki ps)
      rw [e] at this
      obtain ⟨p, hp, e1⟩ := List.mem_map.mp z
      have h2 : ((dki ps).any fun kv => decide (kv.1 = Sum.inl t)) = true := by
        rw [List.any_eq_true]
        exact ⟨_, List.mem_map.mpr ⟨p, hp, rfl⟩, by simp [e1]⟩
      rw [h2] at this
      cases this
    have h2 := k (.int z)
    unfold putI at h2
    rw [if_neg hn] at h2
    rw [dki_put hn]
    exact h2 _ (s'.set _ fun _ e => by cases e)
/-- a list told of the keys, whatever is made for each -/
theorem e_lcKI {te : TE} {tt : TT} {g : TG} {d : Addr} {od : Obj} {own : List (Str × Nat)} {σ0 : St} {ts : List Int} {vs : List V} [hw : Wip σ own σ0] (hl : ts.length = vs.length) (I : Nat → List V → List As → Prop) (h0 : I 0 [] P) (hG : ∀ i acc P, I i acc P → ∀ H, Sat P H → H d = some (.frz od (.dK (dkv ts vs))))
    (hs : ∀ D i t acc P, ts[i]? = some t → I i acc P → Ent (At (.ref D) (LstX acc) :: P) (fun H => g (.int t) σ0 H fun σ2 H2 => wipe σ2 (own.map (·.2)) = σ0 ∧ tt σ2 H2 fun b H3 => kIf b (te σ2 H3 (puC D (I (i + 1)))) (nxC D (I (i + 1)) H3)))
    (hd : ∀ D acc P, I ts.length acc P → Ent (At (.ref D) (LstX acc) :: P) (fun H => Q (.ref D) H)) : Ent P (fun H => kLc (Itk d od (dkv ts vs)) g tt te (own.map (·.2)) σ Q H) := by
  refine e_lc (walk_keys (d := d) (o := od) (kvs := dkv ts vs)) hw.eq I h0 (fun i acc P' _ q H h => hG i acc P' q H h) (fun D i acc P' hi q x H H' sS y => ?_) fun D acc P' q => ?_
  · obtain ⟨rfl, k, v, e, rfl⟩ := y
    obtain ⟨t, v', e1, e2, e3⟩ := dkv_key e
    cases e3
    exact hs D i t acc P' e1 q _ sS
  · rw [dkv_len hl] at q
    exact hd D acc P' q
end
end Qn

/-! S8: a statement, then others: a step of its own. -/
namespace Qn
open PySem L2
/-- a block that is not yet begun -/
def Sq (X : St → Hp → Prop) (σ : St) (H : Hp) : Prop := X σ H
theorem e_seq {P : List As} {t1 t2 : TS} {D : Ends} {σ : St} (e : Ent P (fun H => t1 { D with nx := t2 D } σ H)) : Ent P (fun H => Sq (tSeq t1 t2 D) σ H) := e
theorem e_cutS {P : List As} {t1 t2 : TS} {D : Ends} {σ : St} (I : St → List As → Prop) (h2 : ∀ σ P, I σ P → Ent P (fun H => t2 D σ H))
    (h1 : ∀ N : St → Hp → Prop, (∀ σ P, I σ P → Ent P (fun H => N σ H)) → Ent P (fun H => t1 { D with nx := N } σ H)) : Ent P (fun H => Sq (tSeq t1 t2 D) σ H) := h1 (t2 D) h2
theorem stop_seq {P : List As} {t1 t2 : TS} {D : Ends} {σ : St} : Stp P (fun H => tSeq t1 t2 D σ H) P (fun H => Sq (tSeq t1 t2 D) σ H) := ⟨id⟩
/-- an empty tuple, not yet made -/
def Tq (X : Hp → VK → Prop) (H : Hp) (Q : VK) : Prop := X H Q
theorem stop_tup0 {P : List As} {σ : St} {Q : VK} : Stp P (fun H => tTup0 σ H Q) P (fun H => Tq (tTup0 σ) H Q) := ⟨id⟩
theorem e_tupQ {P : List As} {σ : St} {Q : VK} (k : ∀ p, Ent (At (.ref p) (KTup (([] : List Int).map V.int)) :: P) (fun H => Q (.ref p) H)) : Ent P (fun H => Tq (tTup0 σ) H Q) := fun H s p np => k p _ (s.newK np ⟨p, rfl, upd_same⟩)
end Qn

/-! U0: a list unpacked, one target for many. -/
namespace Qn
open PySem PySem.Spec PyProof.Rows L2
section
variable {X : Cx} {pos : Pos}
/-- the starred one takes what it stands for -/
theorem pgs_star {e : Expr} {ep : Pos} {es : List Expr} {t : TG} {u : TGs} (h1 : PG X e t) (h2 : PGs X es u)
    (hs : (assignEach (.Starred e ep :: es) X.env).map (·.2) = assign e X.env :: (assignEach es X.env).map (·.2) := by rfl) : PGs X (.Starred e ep :: es) (gCons t u) := by
  refine ⟨fun pins s σ H vs us Q I r h => ?_⟩
  obtain ⟨v, vr, e1, h⟩ := h
  subst e1
  cases r with
  | cons r rr =>
    rw [hs]
    exact assignInOrder_cons (thn (h1.run pins s σ H _ _ _ I r h) fun _ s1 ⟨σ1, H1, I1, k⟩ => h2.run pins s1 σ1 H1 _ _ Q I1 rr k)
/-- (a, .., *b, ..) = a list -/
def gUnS (K : PySem.W.Frag) (n i : Nat) (t : TGs) : TG := fun v σ H Q => ∃ a xs, v = .ref a ∧ SqL K H a xs ∧ n ≤ xs.length + 1 ∧ xs.length ≤ 10000 ∧
  ∀ p, H p = none → t (xs.take i ++ .ref p :: (xs.drop i).drop (xs.length + 1 - n)) σ (upd H p (.lst ((xs.drop i).take (xs.length + 1 - n)))) Q
theorem pg_unS {es : List Expr} {k : Nat} {t : TGs} {n i : Nat} (hc : X.calm = true) (h : PGs X es t)
    (hn : (assignEach es X.env).length = n := by rfl) (hst : (assignEach es X.env).findIdx? (·.1) = some i := by rfl) (hi : i < n := by decide) : PG X (.Tuple es k pos) (gUnS X.K n i t) := by
  refine ⟨fun pins s σ H v u Q I r hw => ?_⟩
  obtain ⟨a, xs, e1, hq, hl, hz, hw⟩ := hw
  subst e1
  cases r
  obtain ⟨its, rv, pl, hz2⟩ := I.list hq
  have hl' : s.heap.IsList a its.toArray := by
    obtain ⟨o, m, e, c, d, q⟩ := pl
    exact ⟨o, e, c, m, q⟩
  have sz : its.toArray.size = xs.length := by rw [List.size_toArray]; exact rv.length.symm
  have lits : its.length = xs.length := rv.length.symm
  rw [PyProof.Rows.assign_Tuple]
  refine wpAny_bind (wpAny_standAt ?_)
  unfold unpack
  rw [hn, hst]
  refine wpAny_bind (wpAny_holding ?_)
  have hlt : a ≠ s.heap.objs.size := by obtain ⟨o, ho, _⟩ := hl'; exact Nat.ne_of_lt (Heap.lt_size ho)
  unfold unpackItems
  refine wpAny_bind ?_
  unfold notIterableAtAll
  refine wpAny_bind (wpAny_specialOf hl'.typeIs slot_list_iter.lookup ?_)
  refine wpAny_pure ?_
  simp only [Bool.false_eq_true, if_false]
  refine wpAny_bind (wpAny_holding (wpAny_pyIter_list hl' ?_))
  refine wpAny_bind (wpAny_holding (PySem.W.kun_draw hlt i 0 _ _ ⟨_, Heap.get?_push_size _ rfl, rfl, rfl⟩ (hl'.push _) (by omega) fun h₁ hit₁ hs₁ => ?_))
  have hl₁ : h₁.IsList a its.toArray := (hl'.push _).extBut hs₁.extBut hlt
  rw [Nat.zero_add] at hit₁
  have hit₁' := hit₁
  obtain ⟨oi, hoi, _⟩ := hit₁'
  have hl₁' := hl₁
  obtain ⟨ol, hol, _⟩ := hl₁'
  rw [List.drop_zero]
  have hfl : (its.take i).length = i := by rw [List.length_take]; omega
  rw [if_neg (show ¬ ((its.take i).length < i) by rw [hfl]; omega)]
  refine wpAny_bind (wpAny_holding (PySem.W.kun_collect (s := { s with heap := h₁ }) (T := "list_iterator") (.inr (.inr (.inl rfl))) (Walks.list (A := X.A.in1) (I.ok.hd hc) s.heap.objs.size a hlt its.toArray) (fun j u st => st.1.typeIs) (k := i) (by omega) ⟨hit₁, hl₁⟩ (Heap.lt_size hoi) (Heap.lt_size hol) (fun h₂ tk hk => ?_) (by rw [sizeLine_eq]; omega)))
  have hrl : (its.drop i).length = xs.length - i := by rw [List.length_drop]; omega
  have hmid : (its.drop i).length - (n - 1 - i) = xs.length + 1 - n := by rw [hrl]; omega
  show wpAny _ _ (if (its.drop i).length < n - 1 - i then _ else _) _ _ _
  rw [if_neg (by rw [hrl]; omega)]
  show wpAny _ _ (newList ((its.drop i).take ((its.drop i).length - (n - 1 - i))) >>= fun d => pure (its.take i ++ [d] ++ (its.drop i).drop ((its.drop i).length - (n - 1 - i)))) _ _ _
  rw [hmid]
  have he : ∀ b o, s.heap.get? b = some o → h₂.get? b = some o := fun b o e => hk b o (Nat.ne_of_lt (Heap.lt_size e)) (hs₁.extBut b o (Nat.ne_of_lt (Heap.lt_size e)) (Heap.get?_push_of_some _ e))
  have I2 : Inv X pins σ H { s with heap := h₂, toks := tk } := I.kept (t' := tk) he
  refine wpAny_bind (wpAny_newList ?_ (by rw [List.length_take, hrl, sizeLine_eq]; omega))
  refine wpAny_pure ?_
  have hf : H h₂.objs.size = none := I2.hok.fresh (Nat.le_refl _)
  have w := hw _ hf
  have rt : Vals ((xs.drop i).take (xs.length + 1 - n)) ((its.drop i).take (xs.length + 1 - n)) := (rv.drop i).take _
  have I3 : Inv X pins σ (upd H h₂.objs.size (.lst ((xs.drop i).take (xs.length + 1 - n)))) _ := I2.laid (t' := tk) (fun b u e => Heap.get?_push_of_some _ e) (Nat.le_refl _) (show ObjOk X.prog X.w _ (h₂.push (seqObj "list" ((its.drop i).take (xs.length + 1 - n)).toArray 0)) _ _ from ⟨by rw [List.length_take, List.length_drop, sizeLine_eq]; omega, _, 0, rt, Heap.get?_push_size _ rfl⟩)
  refine h.run pins _ σ _ _ _ Q I3 ?_ w
  rw [List.append_assoc]
  exact (rv.take i).append (.cons (by exact rfl) ((rv.drop i).drop _))
end
end Qn

/-! U1: defs with one parameter by keyword alone. -/
namespace Qn
open PySem PySem.Spec PyProof.Rows L2
section
variable (P : Program) (w : World) (K : PySem.W.Frag) (mg : Str → Option Value) (base : Heap)
/-- a def of the module, its last parameters by keyword: its promise, its place, how it binds -/
def CalK (CX : CXT) (k : Nat) (x : Str) (ps : List Str) (n : Nat) (ks : List Str) (ds : List V) (sp : Sp) : Prop := ∃ f fd, FnOk P w K mg base CX k f fd ps sp ∧ mg x = some (.ref f) ∧ PySem.W.keepIn K (.ref f) = true ∧
  KBn K fd ps n ks (fun us ws => us ++ ws) (fun vs zs => vs ++ zs) ∧ ∃ us, Vals ds us ∧ Binds K fd ps us
end
section
variable {X : Cx} {CX : CXT} {k n : Nat} {x m : Str} {ps ks : List Str} {sp : Sp} {E : XK} {p pos apos : Pos} {e o : Expr} {es : List Expr} {t tk : TA} {kws : List Keyword} {ds : List V}
theorem q_callK (F : CalK X.prog X.w X.K X.mg X.base CX k x ps n ks ds sp) (hr : Room k X.A) (hx : Passes CX X E) (ha : PA X (e :: es) t) (hkw : PK X kws tk) (hg : Gl X x := by rfl) (hdb : (x == ("__debug__" : Str)) = false := by decide)
    (hall : (backToKw pos (keywordEach kws X.env)).all (·.1.isSome) = true := by rfl) (hks : (backToKw pos (keywordEach kws X.env)).filterMap (·.1) = ks := by rfl)
    (he : starEach (e :: es) X.env = (false, eval e X.env) :: starEach es X.env := by rfl)
    (hpl : ((backTo pos (starEach (e :: es) X.env)).any (·.1) || (backToKw pos (keywordEach kws X.env)).any (·.1.isNone)) = false := by rfl) :
    PE X (.Call (.Name x p) (e :: es) kws pos) (tCallN n ks.length sp (fun vs zs => vs ++ zs) E t tk) := by
  obtain ⟨f, fd, F, g, kp, b, _⟩ := F
  exact pe_callN F hr hg g kp b hx ha hkw hall hks hdb he hpl
theorem q_callD (F : CalK X.prog X.w X.K X.mg X.base CX k x ps n ks ds sp) (hr : Room k X.A) (hx : Passes CX X E) (ha : PA X (e :: es) t) (hg : Gl X x := by rfl) (hdb : (x == ("__debug__" : Str)) = false := by decide)
    (he : starEach (e :: es) X.env = (false, eval e X.env) :: starEach es X.env := by rfl) (hpl : (backTo pos (starEach es X.env)).any (·.1) = false := by rfl) : PE X (.Call (.Name x p) (e :: es) [] pos) (tCall sp ds E t) := by
  obtain ⟨f, fd, F, g, kp, _, us, r, b⟩ := F
  exact pe_call F hr hg g kp b r hx ha hdb he hpl
end
section
variable {K : PySem.W.Frag} {x qual : Str} {st : Stmt} {f : Addr} {fd : FuncData} {ps ks : List Str} {n : Nat}
theorem kbn_of (F : Fun K x qual st f fd) (h : ∀ (kV doc pm : Value) (an : Option Addr) (cdv ct : Value) (us ws : List Value), us.length = n → ws.length = ks.length →
    bindArgs (PySem.W.fnOf x qual (defArgs st) (defBody st) (defScope st) .none kV doc pm an cdv ct) ⟨us, ks.zip ws⟩ = pure (ps.zip (us ++ ws))) : KBn K fd ps n ks (fun us ws => us ++ ws) (fun vs zs => vs ++ zs) := by
  obtain ⟨oc, od, kV, doc, pm, an, cdv, ct, osl, rfl, lk, hcd⟩ := F.ex
  exact ⟨fun s us ws _ h1 h2 => .of_eq (h kV doc pm an cdv ct us ws h1 h2), fun r1 r2 => r1.append r2⟩
theorem kwd_of {oc : Value} {od an : Option Addr} {osl : Array (Option Value)} {doc pm cdv ct : Value} {D : Addr} {y : Str} {i : Int} {t : Tok} (l : K.lookup f = some ⟨oc, od, .func (PySem.W.fnOf x qual (defArgs st) (defBody st) (defScope st) .none (.ref D) doc pm an cdv ct), osl⟩)
    (c : PySem.W.codeIn K cdv qual = true) (kp : PySem.W.keepIn K (.ref f) = true) (q : PySem.W.nsIn K D y = some (some (.int i t))) (hn : n + 1 = ps.length)
    (h : ∀ (D : Addr) (doc pm : Value) (an : Option Addr) (cdv ct : Value) (us ks : List Value), us.length = n → ks.length = 1 →
      KwChain D (([y] : List Str).zip ks) (bindArgs (PySem.W.fnOf x qual (defArgs st) (defBody st) (defScope st) .none (.ref D) doc pm an cdv ct) ⟨us, []⟩) (ps.zip (us ++ ks))) :
    ∃ us, Vals [.int i] us ∧ Binds K (PySem.W.fnOf x qual (defArgs st) (defBody st) (defScope st) .none (.ref D) doc pm an cdv ct) ps us :=
  FunD.binds0 (kws := [(y, .int i)]) ⟨⟨oc, od, .none, .ref D, doc, pm, an, cdv, ct, osl, rfl, l, c, .inl ⟨rfl, rfl⟩, .inr ⟨D, rfl, fun p hp => by
    cases List.mem_singleton.mp hp
    exact ⟨_, q, ⟨_, rfl⟩⟩⟩⟩, kp⟩ n (by simp) hn h
end
end Qn

/-! U2: objects by their fields; many lists; a play's parts. -/
namespace Qn
open PySem L2
local macro_rules | `(tactic| fail "ne") => `(tactic| first | assumption | (apply Ne.symm; assumption) | (apply ne_of_none; assumption; assumption) | (apply Ne.symm; apply ne_of_none; assumption; assumption) | (apply ne_of; assumption; assumption; (intro z; cases z)))
local macro_rules | `(tactic| fail "hp") => `(tactic| with_reducible first | assumption | apply upd_same | (apply upd_old; rotate_left; assumption; fail "hp") | (apply upd_oth; rotate_left; fail "ne"; fail "hp"))
local macro_rules | `(tactic| fail "sl") => `(tactic| with_reducible first | assumption | (apply SqL.of; fail "hp"))
local macro_rules | `(tactic| fail "st") => `(tactic| with_reducible first | assumption | (apply SqT.of; fail "hp"))
local macro_rules | `(tactic| fail "tx") => `(tactic| with_reducible first | assumption | (apply Txt.c_Reader; assumption) | (apply Txt.n_Reader_head; assumption) | (apply Txt.n_Reader_read_lines; assumption) | (apply Txt.n_Reader_read_tasks; assumption))
local macro_rules | `(tactic| fail "lk") => `(tactic| with_reducible first | assumption | apply lk_LF_rules | apply lk_LF_cards | apply lk_LF_rows | apply lk_LF_time | apply lk_CF_line | apply lk_CF_quantum | apply lk_CF_share | apply lk_CF_is_ready | apply lk_CF_spent | (apply lk_LF_no; decide +kernel; decide +kernel; decide +kernel; decide +kernel))
local macro_rules | `(tactic| fail "at") => `(tactic| with_reducible first | assumption | apply mc_0 | apply mc_1 | apply mc_2 | apply mc_3 | apply mc_4 | apply at_0 | apply at_1 | apply at_2 | apply at_3 | apply at_4 | (apply atI_nat; assumption) | (apply at_z; assumption))
local macro_rules | `(tactic| fail "go") => `(tactic| repeat (first
  | apply rd_step
  | with_reducible (first
    | (apply r_kFld; fail "hp"; fail "tx"; fail "tx"; fail "lk")
    | (apply r_ixL; fail "sl"; fail "at") | (apply r_ixT; fail "st"; fail "at")
    | (apply r_kMeth; fail "hp"; fail "lk") | (apply r_kBML; fail "sl")
    | (apply r_lenL; fail "sl") | (apply r_lenT; fail "st") | (apply r_lenD; fail "hp")
    | (apply r_kDGetI; fail "hp"; (first | assumption | rfl)) | (apply r_kDGetS; fail "hp"; (first | assumption | apply mv_rules | apply mv_rows | apply mv_cards | apply mv_now)) | (apply r_kDInI; fail "hp") | (apply r_kDNotInI; fail "hp")
    | (apply r_kAugF; fail "hp"; fail "tx"; fail "tx"; fail "lk")
    | (apply r_isi_tuple_tuple; fail "st") | (apply r_isi_list_tuple; fail "sl") | (apply r_isi_list_list; fail "sl") | (apply r_isi_tuple_list; fail "st")
    | (apply r_kUnT; fail "st"; with_unfolding_all rfl) | (apply r_kIL; fail "sl") | (apply r_kIT; fail "st") | (apply r_kIE; fail "st") )))
local macro_rules | `(tactic| fail "eg") => `(tactic| repeat (first
  | apply stp
  | (refine e_rul0 (fun _ => ?_))

  | (refine e_tup0 (fun _ => ?_)) ))
local macro_rules | `(tactic| fail "egs") => `(tactic| (try (with_reducible refine e_seq ?_)) <;> repeat (first
  | apply stp
  | (with_reducible refine e_seq ?_)
  | (refine e_rul0 (fun _ => ?_))

  | (refine e_tup0 (fun _ => ?_)) ))
/-! ### parts put together -/
theorem satL_app : ∀ {P F : List As} {k h : Hp}, SatL (P ++ F) k h ↔ ∃ h1 h2, Same h1 h ∧ Same h2 h ∧ Apart h1 h2 ∧ SatL P k h1 ∧ SatL F k h2
  | [], F, k, h => ⟨fun x => ⟨hnil, h, same_nil, Same.refl _, apart_nil, trivial, x⟩, fun ⟨_, _, _, s2, _, _, x⟩ => x.up s2⟩
  | A :: P, F, k, h => by
    constructor
    · rintro ⟨h1, h2, s1, s2, x, y, z⟩
      obtain ⟨h3, h4, s3, s4, x2, y2, z2⟩ := satL_app.mp z
      have x13 := x.sub (Same.refl _) s3
      have x14 := x.sub (Same.refl _) s4
      exact ⟨hor h1 h3, h4, hor_sub s1 (s3.trans s2), s4.trans s2, hor_apart x14 x2, ⟨h1, h3, same_hor_l, same_hor_r x13, x13, y, y2⟩, z2⟩
    · rintro ⟨h1, h2, s1, s2, x, ⟨h3, h4, s3, s4, x2, y2, z2⟩, z⟩
      have x42 := x.sub s4 (Same.refl _)
      have x32 := x.sub s3 (Same.refl _)
      exact ⟨h3, hor h4 h2, s3.trans s1, hor_sub (s4.trans s1) s2, (hor_apart x2.symm x32.symm).symm, y2, satL_app.mpr ⟨h4, h2, same_hor_l, same_hor_r x42, x42, z2, z⟩⟩
/-! ### fields -/
abbrev ObjX (C dx : Addr) (fs : List (Str × V)) : Ty := Cel (.ins C dx fs)
section
variable {P P' F G : List As} {K : PySem.W.Frag} {σ σ0 : St} {Q : VK} {D a p q d g C dx : Addr} {R : Hp → Prop} {xs ys vs : List V} {i : Nat} {t : Int} {v z : V} {kvs : List (Key × V)} {fs : List (Str × V)} {f m : Str} {X : Hp → Prop}
theorem e_fld [s : Sees P g (.ins C dx fs)] (c : Cls K C) (n : NoAttr K C f) (l : fs.lookup f = some v) (k : Ent P (fun H => Q v H)) : Ent P (fun H => kFld K f (.ref g) H Q) := fun H h => r_kFld (s.sees H h) c n l (k H h)
theorem e_methO {sp : Sp} {dvs : List V} {E : XK} {t : TA} [s : Sees P g (.ins C dx fs)] (l : fs.lookup m = none) (k : Ent P (fun H => t σ H fun vs H2 => sp (.ref g :: (vs ++ dvs)) H2 Q E)) : Ent P (fun H => kMeth C m sp dvs E σ t (.ref g) H Q) := fun H h => r_kMeth (s.sees H h) l (k H h)
theorem e_setF [tk : Take P (.ref g) (ObjX C dx fs) F] (c : Cls K C) (n : NoAttr K C f) (hl : fs.length < 1000) (k : Ent (At (.ref g) (ObjX C dx (putF f v fs)) :: F) R) : Ent P (fun H => kSetF K f v (.ref g) H R) := fun H s =>
  r_kSetF (Sat.sees (F := F) (s.imp tk.tk)) c n hl (k _ ((s.imp tk.tk).set _ (fun _ e => by cases e)))
theorem e_makeO {sp : Sp} {E : XK} (k : ∀ x dx, Ent (At (.ref x) (ObjX C dx []) :: P) (fun H => sp (.ref x :: vs) H (fun v H2 => v = .non ∧ Q (.ref x) H2) E)) : Ent P (fun H => kMake C sp E vs H Q) := fun H s x dx nx nd ne =>
  k x dx _ (Sat.new (s.same (Same.upd nd)) (by rw [upd_ne (fun z => ne z.symm)]; exact nx) ⟨x, rfl, upd_same⟩ fun _ e => by cases e)
theorem e_setEn [tk : Take P (.ref d) (DctX kvs) F] (hl : kvs.length < 1000) (h1 : ∀ v, valV kvs (.inl t) = some v → Ent (At (.ref d) (DctX kvs) :: F) (fun H => Q v H)) (h2 : valV kvs (.inl t) = none → Ent (At (.ref d) (DctX (putK kvs (.inl t) z)) :: F) (fun H => Q z H)) :
    Ent P (fun H => kSetE (.ref d) (.int t) z H Q) := fun H s => by
  have s' := s.imp tk.tk
  exact ⟨d, kvs, .inl t, rfl, Sat.sees (F := F) s', rfl, Nat.lt_of_lt_of_le hl (by decide), fun v e => h1 v e H s', fun e => h2 e _ (s'.set _ fun _ e => by cases e)⟩
theorem e_popDn [tk : Take P (.ref d) (DctX kvs) F] (h1 : ∀ v, valV kvs (.inl t) = some v → Ent (At (.ref d) (DctX (dropK kvs (.inl t))) :: F) (fun H => Q v H)) (h2 : valV kvs (.inl t) = none → Ent (At (.ref d) (DctX kvs) :: F) (fun H => Q z H)) :
    Ent P (fun H => kPopD (.ref d) (.int t) z H Q) := fun H s => by
  have s' := s.imp tk.tk
  exact ⟨d, kvs, .inl t, rfl, Sat.sees (F := F) s', rfl, fun v e => h1 v e _ (s'.set _ fun _ e => by cases e), fun e => h2 e H s'⟩
end
/-! ### many lists of numbers -/
def LsX (qs : List Addr) (xss : List (List Int)) : Ty := fun _ => ⟨fun _ h => qs.Nodup ∧ qs.length = xss.length ∧ ∀ (i : Nat) (q : Addr) (xs : List Int), qs[i]? = some q → xss[i]? = some xs → h q = some (.lst (xs.map V.int)), fun _ x => x⟩
/-- all but the one at i -/
def LsH (i : Nat) (qs : List Addr) (xss : List (List Int)) : Ty := fun _ => ⟨fun _ h => qs.Nodup ∧ qs.length = xss.length ∧ ∀ (j : Nat) (q : Addr) (xs : List Int), j ≠ i → qs[j]? = some q → xss[j]? = some xs → h q = some (.lst (xs.map V.int)), fun _ x => x⟩
section
variable {P P' F G : List As} {i : Nat} {v : V} {q q' : Addr} {qs : List Addr} {xss : List (List Int)} {xs ys : List Int} {X : Hp → Prop} {k h : Hp}
theorem nodup_ix {α : Type} {qs : List α} {q : α} {i j : Nat} (nd : qs.Nodup) (e1 : qs[i]? = some q) (e2 : qs[j]? = some q) : i = j := by
  obtain ⟨h1, e1⟩ := List.getElem?_eq_some_iff.mp e1
  obtain ⟨h2, e2⟩ := List.getElem?_eq_some_iff.mp e2
  exact (List.getElem_inj nd).mp (e1.trans e2.symm)
theorem satL_open (hq : qs[i]? = some q) (hx : xss[i]? = some xs) (s : SatL (At v (LsX qs xss) :: F) k h) : SatL (At (.ref q) (LstX (xs.map V.int)) :: At v (LsH i qs xss) :: F) k h := by
  obtain ⟨h1, h2, s1, s2, x, ⟨nd, hl, y⟩, z⟩ := s
  have hq1 := y i q xs hq hx
  have sa : Same (upd hnil q (.lst (xs.map V.int))) h1 := fun b o e => by
    by_cases z : b = q
    · subst z; rw [upd_same] at e; rw [hq1]; exact e
    · rw [upd_ne z] at e; cases e
  have sb : Same (fun b => if b = q then none else h1 b) h1 := fun b o e => by
    replace e : (if b = q then none else h1 b) = some o := e
    by_cases z : b = q
    · rw [if_pos z] at e; cases e
    · rw [if_neg z] at e; exact e
  have ab : Apart (upd hnil q (.lst (xs.map V.int))) (fun b => if b = q then none else h1 b) := fun b => by
    by_cases z : b = q
    · exact .inr (if_pos z)
    · exact .inl (upd_ne z)
  have a1 : Apart (upd hnil q (.lst (xs.map V.int))) h2 := x.sub sa (Same.refl _)
  have a2 : Apart (fun b => if b = q then none else h1 b) h2 := x.sub sb (Same.refl _)
  refine ⟨upd hnil q (.lst (xs.map V.int)), hor (fun b => if b = q then none else h1 b) h2, sa.trans s1, hor_sub (sb.trans s1) s2, (hor_apart ab.symm a1.symm).symm, ⟨q, rfl, upd_same⟩, _, h2, same_hor_l, same_hor_r a2, a2, ⟨nd, hl, fun j q2 xs2 ne e1 e2 => ?_⟩, z⟩
  have : q2 ≠ q := fun z => ne (nodup_ix nd (z ▸ e1) hq)
  show (if q2 = q then none else h1 q2) = _
  rw [if_neg this]
  exact y j q2 xs2 e1 e2
theorem e_open (tk : Take P v (LsX qs xss) F) (hq : qs[i]? = some q) (hx : xss[i]? = some xs) (e : Ent (At (.ref q) (LstX (xs.map V.int)) :: At v (LsH i qs xss) :: F) X) : Ent P X :=
  e.mono fun k h s => satL_open hq hx (tk.tk k h s)
theorem satL_close (hi : i < qs.length) (s : SatL (At (.ref q) (LstX (ys.map V.int)) :: At v (LsH i qs xss) :: F) k h) : SatL (At v (LsX (qs.set i q) (xss.set i ys)) :: F) k h := by
  obtain ⟨h1, h2, s1, s2, x, ⟨_, eq1, hq⟩, h3, h4, s3, s4, x2, ⟨nd, hl, y⟩, z⟩ := s
  cases eq1
  have x13 := x.sub (Same.refl _) s3
  have out : ∀ j q2, j ≠ i → qs[j]? = some q2 → q2 ≠ q := fun j q2 ne e1 z => by
    have hj : j < xss.length := by have := (List.getElem?_eq_some_iff.mp e1).1; omega
    have e2 := y j q2 _ ne e1 (List.getElem?_eq_getElem hj)
    subst z
    rcases x13 q2 with e | e
    · rw [hq] at e; cases e
    · rw [e2] at e; cases e
  refine ⟨hor h1 h3, h4, hor_sub s1 (s3.trans s2), s4.trans s2, hor_apart (x.sub (Same.refl _) s4) x2, ⟨?_, by rw [List.length_set, List.length_set]; exact hl, fun j q2 xs2 e1 e2 => ?_⟩, z⟩
  · refine List.pairwise_iff_getElem.mpr fun j1 j2 hj1 hlen hlt e => ?_
    replace e : (qs.set i q)[j1]? = (qs.set i q)[j2]? := by rw [List.getElem?_eq_getElem hj1, List.getElem?_eq_getElem hlen, e]
    rw [List.length_set] at hlen
    rw [List.getElem?_set, List.getElem?_set] at e
    have g1 : qs[j1]? = some qs[j1] := List.getElem?_eq_getElem (by omega)
    have g2 : qs[j2]? = some qs[j2] := List.getElem?_eq_getElem hlen
    by_cases z1 : i = j1
    · have z2 : ¬ i = j2 := by omega
      rw [if_pos z1, if_pos (by omega), if_neg z2, g2] at e
      exact out j2 _ (fun z => z2 z.symm) g2 (Option.some.inj e).symm
    · rw [if_neg z1, g1] at e
      by_cases z2 : i = j2
      · rw [if_pos z2, if_pos (by omega)] at e
        exact out j1 _ (fun z => z1 z.symm) g1 (Option.some.inj e)
      · rw [if_neg z2] at e
        have := nodup_ix nd g1 e.symm
        omega
  · rw [List.getElem?_set] at e1 e2
    by_cases z : i = j
    · rw [if_pos z, if_pos (by omega)] at e1
      rw [if_pos z, if_pos (by omega)] at e2
      cases Option.some.inj e1; cases Option.some.inj e2
      exact hor_l hq
    · rw [if_neg z] at e1 e2
      exact same_hor_r x13 _ _ (y j q2 xs2 (fun y => z y.symm) e1 e2)
theorem e_close [t1 : Take P (.ref q) (LstX (ys.map V.int)) F] (t2 : Take F v (LsH i qs xss) G) (hi : i < qs.length) (e : Ent (At v (LsX (qs.set i q) (xss.set i ys)) :: G) X) : Ent P X :=
  e.mono fun k h s => satL_close hi (SatL.cons t2.tk (t1.tk k h s))
theorem set_same {α : Type} {xs : List α} {x : α} (h : xs[i]? = some x) : xs.set i x = xs := by
  obtain ⟨hi, e⟩ := List.getElem?_eq_some_iff.mp h
  rw [← e, List.set_getElem_self]
theorem satL_push (s : SatL (At (.ref q) (LstX (ys.map V.int)) :: At v (LsX qs xss) :: F) k h) : SatL (At v (LsX (qs ++ [q]) (xss ++ [ys])) :: F) k h := by
  obtain ⟨h1, h2, s1, s2, x, ⟨_, eq1, hq⟩, h3, h4, s3, s4, x2, ⟨nd, hl, y⟩, z⟩ := s
  cases eq1
  have x13 := x.sub (Same.refl _) s3
  have out : q ∉ qs := fun hm => by
    obtain ⟨j, hj, e⟩ := List.mem_iff_getElem.mp hm
    have e2 := y j q _ (by rw [List.getElem?_eq_getElem hj, e]) (List.getElem?_eq_getElem (by omega))
    rcases x13 q with e | e
    · rw [hq] at e; cases e
    · rw [e2] at e; cases e
  refine ⟨hor h1 h3, h4, hor_sub s1 (s3.trans s2), s4.trans s2, hor_apart (x.sub (Same.refl _) s4) x2, ⟨?_, by simp [hl], fun j q2 xs2 e1 e2 => ?_⟩, z⟩
  · exact List.nodup_append.mpr ⟨nd, by simp, fun a ha b hb e => out ((List.mem_singleton.mp hb) ▸ e ▸ ha)⟩
  · by_cases hj : j < qs.length
    · rw [List.getElem?_append_left hj] at e1
      rw [List.getElem?_append_left (by omega)] at e2
      exact same_hor_r x13 _ _ (y j q2 xs2 e1 e2)
    · rw [List.getElem?_append_right (by omega)] at e1
      rw [List.getElem?_append_right (by omega)] at e2
      have : j - qs.length = 0 := by have := (List.getElem?_eq_some_iff.mp e1).1; simpa using this
      have h2 : j - xss.length = 0 := by omega
      rw [this] at e1
      rw [h2] at e2
      cases Option.some.inj e1; cases Option.some.inj e2
      exact hor_l hq
theorem e_pushL [t1 : Take P (.ref q) (LstX (ys.map V.int)) F] (t2 : Take F v (LsX qs xss) G) (e : Ent (At v (LsX (qs ++ [q]) (xss ++ [ys])) :: G) X) : Ent P X :=
  e.mono fun k h s => satL_push (SatL.cons t2.tk (t1.tk k h s))
theorem e_nil (e : Ent (At v (LsX [] []) :: P) X) : Ent P X := e.mono fun k h s => ⟨hnil, h, same_nil, Same.refl _, apart_nil, ⟨List.nodup_nil, rfl, fun i q xs e => by cases e⟩, s⟩
theorem e_lose (tk : Take P v (LsH i qs xss) F) (hi : i < qs.length) (e : Ent (At v (LsX (qs.eraseIdx i) (xss.eraseIdx i)) :: F) X) : Ent P X := e.mono fun k h s => by
  obtain ⟨h1, h2, s1, s2, x, ⟨nd, hl, y⟩, z⟩ := tk.tk k h s
  refine ⟨h1, h2, s1, s2, x, ⟨nd.sublist (List.eraseIdx_sublist _ _), by rw [List.length_eraseIdx, List.length_eraseIdx, if_pos hi, if_pos (by omega), hl], fun j q2 xs2 e1 e2 => ?_⟩, z⟩
  rw [List.getElem?_eraseIdx] at e1 e2
  by_cases hj : j < i
  · rw [if_pos hj] at e1 e2
    exact y j q2 xs2 (by omega) e1 e2
  · rw [if_neg hj] at e1 e2
    exact y (j + 1) q2 xs2 (by omega) e1 e2
theorem e_lsLen (tk : Take P v (LsX qs xss) F) (e : qs.length = xss.length → qs.Nodup → Ent P X) : Ent P X := e_fact (φ := qs.length = xss.length ∧ qs.Nodup) (fun k h s => by
  obtain ⟨_, _, _, _, _, ⟨nd, hl, _⟩, _⟩ := tk.tk k h s
  exact ⟨hl, nd⟩) fun ⟨h1, h2⟩ => e h1 h2
end
end Qn

/-! U3: a play's methods: enter. -/
namespace Qn
open PySem L2
local macro_rules | `(tactic| fail "ne") => `(tactic| first | assumption | (apply Ne.symm; assumption) | (apply ne_of_none; assumption; assumption) | (apply Ne.symm; apply ne_of_none; assumption; assumption) | (apply ne_of; assumption; assumption; (intro z; cases z)))
local macro_rules | `(tactic| fail "hp") => `(tactic| with_reducible first | assumption | apply upd_same | (apply upd_old; rotate_left; assumption; fail "hp") | (apply upd_oth; rotate_left; fail "ne"; fail "hp"))
local macro_rules | `(tactic| fail "sl") => `(tactic| with_reducible first | assumption | (apply SqL.of; fail "hp"))
local macro_rules | `(tactic| fail "st") => `(tactic| with_reducible first | assumption | (apply SqT.of; fail "hp"))
local macro_rules | `(tactic| fail "tx") => `(tactic| with_reducible first | assumption | (apply Txt.c_Reader; assumption) | (apply Txt.n_Reader_head; assumption) | (apply Txt.n_Reader_read_lines; assumption) | (apply Txt.n_Reader_read_tasks; assumption))
local macro_rules | `(tactic| fail "lk") => `(tactic| with_reducible first | assumption | apply lk_LF_rules | apply lk_LF_cards | apply lk_LF_rows | apply lk_LF_time | apply lk_CF_line | apply lk_CF_quantum | apply lk_CF_share | apply lk_CF_is_ready | apply lk_CF_spent | (apply lk_LF_no; decide +kernel; decide +kernel; decide +kernel; decide +kernel))
local macro_rules | `(tactic| fail "at") => `(tactic| with_reducible first | assumption | apply mc_0 | apply mc_1 | apply mc_2 | apply mc_3 | apply mc_4 | apply at_0 | apply at_1 | apply at_2 | apply at_3 | apply at_4 | (apply atI_nat; assumption) | (apply at_z; assumption))
local macro_rules | `(tactic| fail "go") => `(tactic| repeat (first
  | apply rd_step
  | with_reducible (first
    | (apply r_kFld; fail "hp"; fail "tx"; fail "tx"; fail "lk")
    | (apply r_ixL; fail "sl"; fail "at") | (apply r_ixT; fail "st"; fail "at")
    | (apply r_kMeth; fail "hp"; fail "lk") | (apply r_kBML; fail "sl")
    | (apply r_lenL; fail "sl") | (apply r_lenT; fail "st") | (apply r_lenD; fail "hp")
    | (apply r_kDGetI; fail "hp"; (first | assumption | rfl)) | (apply r_kDGetS; fail "hp"; (first | assumption | apply mv_rules | apply mv_rows | apply mv_cards | apply mv_now)) | (apply r_kDInI; fail "hp") | (apply r_kDNotInI; fail "hp")
    | (apply r_kAugF; fail "hp"; fail "tx"; fail "tx"; fail "lk")
    | (apply r_isi_tuple_tuple; fail "st") | (apply r_isi_list_tuple; fail "sl") | (apply r_isi_list_list; fail "sl") | (apply r_isi_tuple_list; fail "st")
    | (apply r_kUnT; fail "st"; with_unfolding_all rfl) | (apply r_kIL; fail "sl") | (apply r_kIT; fail "st") | (apply r_kIE; fail "st") )))
local macro_rules | `(tactic| fail "eg") => `(tactic| repeat (first
  | apply stp
  | (refine e_rul0 (fun _ => ?_))

  | (refine e_tup0 (fun _ => ?_)) ))
local macro_rules | `(tactic| fail "egs") => `(tactic| (try (with_reducible refine e_seq ?_)) <;> repeat (first
  | apply stp
  | (with_reducible refine e_seq ?_)
  | (refine e_rul0 (fun _ => ?_))

  | (refine e_tup0 (fun _ => ?_)) ))
/-- found runs, known -/
def RunF (fs : List Addr) (found : List (Int × Int × Int × Int)) (k : Hp) : Prop := ∀ (i : Nat) (q : Addr) (x : Int × Int × Int × Int), fs[i]? = some q → found[i]? = some x → k q = some (.tup [.int x.1, .int x.2.1, .int x.2.2.1, .int x.2.2.2])
theorem RunF.mono {fs : List Addr} {found : List (Int × Int × Int × Int)} {k k' : Hp} (s : Same k k') (h : RunF fs found k) : RunF fs found k' := fun i q x e1 e2 => s _ _ (h i q x e1 e2)
abbrev PlF (q l w f e : Addr) : List (Str × V) := [("house", .ref q), ("left", .ref l), ("wakes", .ref w), ("found", .ref f), ("ends", .ref e)]
theorem dropK_dkv {ts : List Int} {vs : List V} {i : Nat} {t : Int} (nd : ts.Nodup) (hl : ts.length = vs.length) (h : ts[i]? = some t) : dropK (dkv ts vs) (.inl t) = dkv (ts.eraseIdx i) (vs.eraseIdx i) := by
  induction ts generalizing vs i with
  | nil => cases h
  | cons u ts ih =>
    cases vs with
    | nil => cases hl
    | cons v vs =>
      have nd' := List.nodup_cons.mp nd
      cases i with
      | zero =>
        cases Option.some.inj h
        show (((Sum.inl t : Key), v) :: dkv ts vs).filter _ = dkv ts vs
        rw [List.filter_cons_of_neg (by simp)]
        refine List.filter_eq_self.mpr fun kv hkv => ?_
        obtain ⟨p, hp, rfl⟩ := List.mem_map.mp hkv
        have h1 := (List.of_mem_zip hp).1
        have : ¬ (Sum.inl p.1 : Key) = Sum.inl t := fun z => nd'.1 (by rw [← Sum.inl.inj z]; exact h1)
        simpa using this
      | succ i =>
        have h' : ts[i]? = some t := h
        have ne : u ≠ t := fun z => nd'.1 (by rw [z]; exact List.mem_of_getElem? h')
        show (((Sum.inl u : Key), v) :: dkv ts vs).filter _ = ((Sum.inl u : Key), v) :: dkv (ts.eraseIdx i) (vs.eraseIdx i)
        rw [List.filter_cons_of_pos (by simpa using fun z : (Sum.inl u : Key) = Sum.inl t => ne (Sum.inl.inj z))]
        congr 1
        exact ih nd'.2 (by simpa using hl) h'
theorem delW_ix {wk : List (Int × List Int)} {i : Nat} {m : Int} (nd : (wk.map Prod.fst).Nodup) (h : (wk.map Prod.fst)[i]? = some m) : delW wk m = wk.eraseIdx i := by
  induction wk generalizing i with
  | nil => cases h
  | cons p r ih =>
    have nd' := List.nodup_cons.mp (show (p.1 :: r.map Prod.fst).Nodup from nd)
    cases i with
    | zero =>
      have e : p.1 = m := Option.some.inj h
      unfold delW
      rw [List.filter_cons_of_neg (by simpa using e)]
      refine List.filter_eq_self.mpr fun q hq => ?_
      have : q.1 ≠ m := fun z => nd'.1 (by rw [e, ← z]; exact List.mem_map.mpr ⟨q, hq, rfl⟩)
      simpa using this
    | succ i =>
      have h' : (r.map Prod.fst)[i]? = some m := h
      have ne : p.1 ≠ m := fun z => nd'.1 (by rw [z]; exact List.mem_of_getElem? h')
      unfold delW
      rw [List.filter_cons_of_pos (by simpa using ne)]
      show p :: delW r m = p :: r.eraseIdx i
      rw [ih nd'.2 h']
theorem getW_ix {wk : List (Int × List Int)} {i : Nat} {m : Int} {ts : List Int} (nd : (wk.map Prod.fst).Nodup) (h : wk[i]? = some (m, ts)) : getW wk m = ts := by
  induction wk generalizing i with
  | nil => cases h
  | cons p r ih =>
    have nd' := List.nodup_cons.mp (show (p.1 :: r.map Prod.fst).Nodup from nd)
    unfold getW
    cases i with
    | zero =>
      cases Option.some.inj h
      rw [List.find?_cons_of_pos (by simp)]; rfl
    | succ i =>
      have h' : r[i]? = some (m, ts) := h
      have ne : p.1 ≠ m := fun z => nd'.1 (by rw [z]; exact List.mem_map.mpr ⟨_, List.mem_of_getElem? h', rfl⟩)
      rw [List.find?_cons_of_neg (by simpa using ne)]
      exact ih nd'.2 h'
theorem getW_none {wk : List (Int × List Int)} {m : Int} (h : m ∉ wk.map Prod.fst) : getW wk m = [] := by
  unfold getW
  rw [List.find?_eq_none.mpr fun p hp => by
    have : p.1 ≠ m := fun z => h (by rw [← z]; exact List.mem_map.mpr ⟨p, hp, rfl⟩)
    simpa using this]
  rfl
theorem delW_none {wk : List (Int × List Int)} {m : Int} (h : m ∉ wk.map Prod.fst) : delW wk m = wk := List.filter_eq_self.mpr fun p hp => by
  have : p.1 ≠ m := fun z => h (by rw [← z]; exact List.mem_map.mpr ⟨p, hp, rfl⟩)
  simpa using this
section
variable {Pl F F1 F2 G : List As} {w n : Addr} {ws : List Addr} {wk : List (Int × List Int)} {m : Int} {Q : VK} {u : V}
theorem eraseIdx_map {α β : Type} (f : α → β) : ∀ (xs : List α) (i : Nat), (xs.map f).eraseIdx i = (xs.eraseIdx i).map f
  | [], _ => rfl
  | _ :: _, 0 => rfl
  | x :: xs, i + 1 => by show f x :: (xs.map f).eraseIdx i = f x :: (xs.eraseIdx i).map f; rw [eraseIdx_map f xs i]
/-- the tasks of a moment, taken out -/
theorem e_wpop [t1 : Take Pl (.ref w) (DctX (dkv (wk.map Prod.fst) (ws.map V.ref))) F1] (t2 : Take F1 u (LsX ws (wk.map Prod.snd)) F2) [t3 : Take F2 (.ref n) (LstX []) G] (nd : (wk.map Prod.fst).Nodup) (hl : ws.length = wk.length)
    (k : ∀ x ws', ws'.length = (delW wk m).length → Ent (At (.ref x) (LstX ((getW wk m).map V.int)) :: At (.ref w) (DctX (dkv ((delW wk m).map Prod.fst) (ws'.map V.ref))) :: At u (LsX ws' ((delW wk m).map Prod.snd)) :: G) (fun H => Q (.ref x) H)) :
    Ent Pl (fun H => kPopD (.ref w) (.int m) (.ref n) H Q) := by
  refine e_popDn (d := w) (fun v e => ?_) fun e => ?_
  · have hm : m ∈ wk.map Prod.fst := Classical.byContradiction fun z => by rw [dkv_none z] at e; cases e
    obtain ⟨i, hi, em⟩ := List.mem_iff_getElem.mp hm
    have em' : (wk.map Prod.fst)[i]? = some m := by rw [List.getElem?_eq_getElem hi, em]
    rw [List.length_map] at hi
    have hw : ws[i]? = some ws[i] := List.getElem?_eq_getElem (by omega)
    have hk : wk[i]? = some (m, wk[i].2) := by
      rw [List.getElem?_eq_getElem hi]
      rw [List.getElem_map] at em
      rw [← em]
    have ev := dkv_at nd em' (show (ws.map V.ref)[i]? = some (.ref ws[i]) by rw [List.getElem?_map, hw]; rfl)
    rw [ev] at e
    cases Option.some.inj e
    rw [dropK_dkv nd (by rw [List.length_map, List.length_map]; exact hl.symm) em', eraseIdx_map, eraseIdx_map, ← delW_ix nd em']
    have hg := getW_ix nd hk
    haveI : Take (At (.ref w) (DctX (dkv ((delW wk m).map Prod.fst) ((ws.eraseIdx i).map V.ref))) :: F1) u (LsX ws (wk.map Prod.snd)) (At (.ref w) (DctX (dkv ((delW wk m).map Prod.fst) ((ws.eraseIdx i).map V.ref))) :: F2) := take_skip (t := t2)
    refine e_open this hw (show (wk.map Prod.snd)[i]? = some wk[i].2 by rw [List.getElem?_map, hk]; rfl) ?_
    refine e_lose (i := i) (v := u) (take_skip (t := take_here)) (by omega) ?_
    rw [eraseIdx_map, ← delW_ix nd em', ← hg]
    have k' := k ws[i] (ws.eraseIdx i) (by rw [delW_ix nd em', List.length_eraseIdx, List.length_eraseIdx, hl])
    exact k'.mono fun k0 h0 z => z.swap.up (Same.refl _) |> fun z => SatL.cons (fun k1 h1 y => (SatL.cons (fun k2 h2 y2 => SatL.cons (fun k3 h3 y3 => (t3.tk _ _ y3).tail) y2) y.swap |> fun y => y)) z
  · have hm : m ∉ wk.map Prod.fst := fun z => by
      obtain ⟨i, hi, em⟩ := List.mem_iff_getElem.mp z
      rw [List.length_map] at hi
      have ev := dkv_at nd (show (wk.map Prod.fst)[i]? = some m by rw [List.getElem?_eq_getElem (by rw [List.length_map]; exact hi), em]) (show (ws.map V.ref)[i]? = some (.ref (ws[i]'(by omega))) by rw [List.getElem?_map, List.getElem?_eq_getElem (by omega)]; rfl)
      rw [ev] at e; cases e
    have k' := k n ws (by rw [delW_none hm]; exact hl)
    rw [delW_none hm, getW_none hm] at k'
    exact k'.mono fun k0 h0 z => (SatL.cons (fun k1 h1 y => (SatL.cons (fun k2 h2 y2 => t3.tk _ _ y2) (t2.tk _ _ y)).swap) z).swap
theorem addW_split (nd : (wk.map Prod.fst).Nodup) {t : Int} : (∃ i ts, wk[i]? = some (m, ts) ∧ addW wk m t = wk.set i (m, ts ++ [t])) ∨ (m ∉ wk.map Prod.fst ∧ addW wk m t = wk ++ [(m, [t])]) := by
  induction wk with
  | nil => exact .inr ⟨by simp, rfl⟩
  | cons p r ih =>
    have nd' := List.nodup_cons.mp (show (p.1 :: r.map Prod.fst).Nodup from nd)
    unfold addW
    by_cases e : p.1 = m
    · rw [if_pos e]
      exact .inl ⟨0, p.2, by rw [← e]; rfl, by rw [← e]; rfl⟩
    · rw [if_neg e]
      rcases ih nd'.2 with ⟨i, ts, h1, h2⟩ | ⟨h1, h2⟩
      · exact .inl ⟨i + 1, ts, h1, by rw [h2]; rfl⟩
      · exact .inr ⟨fun z => by rcases List.mem_cons.mp z with z | z; exact e z.symm; exact h1 z, by rw [h2]; rfl⟩
/-- a task among a moment's -/
theorem e_wset {t : Int} [t1 : Take Pl (.ref w) (DctX (dkv (wk.map Prod.fst) (ws.map V.ref))) F1] (t2 : Take F1 u (LsX ws (wk.map Prod.snd)) F2) [t3 : Take F2 (.ref n) (LstX []) G] (nd : (wk.map Prod.fst).Nodup) (hl : ws.length = wk.length) (hz : wk.length < 1000)
    (k : ∀ x i ws' (wk' : List (Int × List Int)) (ts : List Int), ws'.length = wk'.length → ws'[i]? = some x → (addW wk m t).map Prod.fst = wk'.map Prod.fst → (addW wk m t).map Prod.snd = (wk'.map Prod.snd).set i (ts ++ [t]) → ts.length ≤ ((wk.map Prod.snd).flatten).length →
      Ent (At (.ref x) (LstX (ts.map V.int)) :: At (.ref w) (DctX (dkv (wk'.map Prod.fst) (ws'.map V.ref))) :: At u (LsH i ws' (wk'.map Prod.snd)) :: G) (fun H => Q (.ref x) H)) :
    Ent Pl (fun H => kSetE (.ref w) (.int m) (.ref n) H Q) := by
  have key : ∀ (i : Nat) (ts : List Int), wk[i]? = some (m, ts) → ts.length ≤ ((wk.map Prod.snd).flatten).length := fun i ts h => by
    have := List.mem_of_getElem? h
    obtain ⟨a, b, e⟩ := List.append_of_mem this
    rw [e]; simp; omega
  refine e_setEn (d := w) (by rw [dkv_len (by rw [List.length_map, List.length_map]; exact hl.symm), List.length_map]; exact hz) (fun v e => ?_) fun e => ?_
  · rcases addW_split (m := m) (t := t) nd with ⟨i, ts, hk, ha⟩ | ⟨hm, _⟩
    · have em' : (wk.map Prod.fst)[i]? = some m := by rw [List.getElem?_map, hk]; rfl
      have hi : i < ws.length := by have := (List.getElem?_eq_some_iff.mp hk).1; omega
      have hw : ws[i]? = some ws[i] := List.getElem?_eq_getElem hi
      have ev := dkv_at nd em' (show (ws.map V.ref)[i]? = some (.ref ws[i]) by rw [List.getElem?_map, hw]; rfl)
      rw [ev] at e
      cases Option.some.inj e
      refine e_open (i := i) (v := u) (take_skip (t := t2)) hw (show (wk.map Prod.snd)[i]? = some ts by rw [List.getElem?_map, hk]; rfl) ?_
      have k' := k ws[i] i ws wk ts hl hw (by
        rw [addW_keys, if_pos (List.mem_of_getElem? em')]) (by rw [ha, List.map_set]) (key i ts hk)
      exact k'.mono fun k0 h0 z => SatL.cons (fun k1 h1 y => SatL.cons (fun k2 h2 y2 => SatL.cons (fun k3 h3 y3 => (t3.tk _ _ y3).tail) y2) y.swap) z
    · rw [dkv_none hm] at e; cases e
  · rcases addW_split (m := m) (t := t) nd with ⟨i, ts, hk, _⟩ | ⟨hm, ha⟩
    · have em' : (wk.map Prod.fst)[i]? = some m := by rw [List.getElem?_map, hk]; rfl
      have hi : i < ws.length := by have := (List.getElem?_eq_some_iff.mp hk).1; omega
      have ev := dkv_at nd em' (show (ws.map V.ref)[i]? = some (.ref ws[i]) by rw [List.getElem?_map, List.getElem?_eq_getElem hi]; rfl)
      rw [ev] at e; cases e
    · have pk : putK (dkv (wk.map Prod.fst) (ws.map V.ref)) (.inl m) (.ref n) = dkv ((wk ++ [(m, [])]).map Prod.fst) ((ws ++ [n]).map V.ref) := by
        rw [putK_new _ e]
        unfold dkv
        rw [List.map_append, List.map_append, List.zip_append (by rw [List.length_map, List.length_map]; exact hl.symm), List.map_append]
        rfl
      rw [pk]
      haveI : Take F2 (.ref n) (LstX (([] : List Int).map V.int)) G := t3
      refine Ent.to (Q := _) (i := ⟨fun k0 h0 z => SatL.cons (fun k1 h1 y => (SatL.cons (fun k2 h2 y2 => t3.tk _ _ y2) (t2.tk _ _ y)).swap) z⟩) (P := _) ?_
      refine e_pushL (q := n) (ys := []) (t1 := take_skip (t := take_here)) (take_skip (t := take_here)) ?_
      refine e_open (i := ws.length) (q := n) (xs := []) (v := u) take_here (by rw [List.getElem?_append_right (by omega), Nat.sub_self]; rfl) (by rw [List.getElem?_append_right (by rw [List.length_map]; omega), List.length_map, hl, Nat.sub_self]; rfl) ?_
      have k' := k n ws.length (ws ++ [n]) (wk ++ [(m, [])]) [] (by simp [hl]) (by rw [List.getElem?_append_right (by omega), Nat.sub_self]; rfl) (by rw [ha]; simp) (by rw [ha]; simp [List.set_append, hl]) (by simp)
      rw [show List.map Prod.snd (wk ++ [(m, ([] : List Int))]) = wk.map Prod.snd ++ [[]] from by rw [List.map_append]; rfl] at k'
      exact k'.mono fun k0 h0 z => SatL.cons (fun k1 h1 y => y.swap) z
end
section
variable {P : Program} {w : World} {K : PySem.W.Frag} {mg : Str → Option Value} {base : Heap} {a : Adr}
theorem look_enters {R : Rul} {ts : List Int} {t : Int} {S : LSt} (h : t ∉ ts) : look (ts.foldl (Ply.enter1 R) S).cards t = look S.cards t := by
  induction ts generalizing S with
  | nil => rfl
  | cons u r ih =>
    have h' : t ≠ u ∧ t ∉ r := ⟨List.ne_of_not_mem_cons h, List.not_mem_of_not_mem_cons h⟩
    rw [List.foldl_cons, ih h'.2]
    unfold Ply.enter1
    split
    · rename_i z
      obtain ⟨c, e⟩ := Option.isSome_iff_exists.mp z
      rw [look_wake e, if_neg h'.1]
    · rename_i z
      rw [look_come (by simpa using z), if_neg h'.1]
end
end Qn

/-! U4: a play's methods: over, note. -/
namespace Qn
open PySem L2
local macro_rules | `(tactic| fail "ne") => `(tactic| first | assumption | (apply Ne.symm; assumption) | (apply ne_of_none; assumption; assumption) | (apply Ne.symm; apply ne_of_none; assumption; assumption) | (apply ne_of; assumption; assumption; (intro z; cases z)))
local macro_rules | `(tactic| fail "hp") => `(tactic| with_reducible first | assumption | apply upd_same | (apply upd_old; rotate_left; assumption; fail "hp") | (apply upd_oth; rotate_left; fail "ne"; fail "hp"))
local macro_rules | `(tactic| fail "sl") => `(tactic| with_reducible first | assumption | (apply SqL.of; fail "hp"))
local macro_rules | `(tactic| fail "st") => `(tactic| with_reducible first | assumption | (apply SqT.of; fail "hp"))
local macro_rules | `(tactic| fail "tx") => `(tactic| with_reducible first | assumption | (apply Txt.c_Reader; assumption) | (apply Txt.n_Reader_head; assumption) | (apply Txt.n_Reader_read_lines; assumption) | (apply Txt.n_Reader_read_tasks; assumption))
local macro_rules | `(tactic| fail "lk") => `(tactic| with_reducible first | assumption | apply lk_LF_rules | apply lk_LF_cards | apply lk_LF_rows | apply lk_LF_time | apply lk_CF_line | apply lk_CF_quantum | apply lk_CF_share | apply lk_CF_is_ready | apply lk_CF_spent | (apply lk_LF_no; decide +kernel; decide +kernel; decide +kernel; decide +kernel))
local macro_rules | `(tactic| fail "at") => `(tactic| with_reducible first | assumption | apply mc_0 | apply mc_1 | apply mc_2 | apply mc_3 | apply mc_4 | apply at_0 | apply at_1 | apply at_2 | apply at_3 | apply at_4 | (apply atI_nat; assumption) | (apply at_z; assumption))
local macro_rules | `(tactic| fail "go") => `(tactic| repeat (first
  | apply rd_step
  | with_reducible (first
    | (apply r_kFld; fail "hp"; fail "tx"; fail "tx"; fail "lk")
    | (apply r_ixL; fail "sl"; fail "at") | (apply r_ixT; fail "st"; fail "at")
    | (apply r_kMeth; fail "hp"; fail "lk") | (apply r_kBML; fail "sl")
    | (apply r_lenL; fail "sl") | (apply r_lenT; fail "st") | (apply r_lenD; fail "hp")
    | (apply r_kDGetI; fail "hp"; (first | assumption | rfl)) | (apply r_kDGetS; fail "hp"; (first | assumption | apply mv_rules | apply mv_rows | apply mv_cards | apply mv_now)) | (apply r_kDInI; fail "hp") | (apply r_kDNotInI; fail "hp")
    | (apply r_kAugF; fail "hp"; fail "tx"; fail "tx"; fail "lk")
    | (apply r_isi_tuple_tuple; fail "st") | (apply r_isi_list_tuple; fail "sl") | (apply r_isi_list_list; fail "sl") | (apply r_isi_tuple_list; fail "st")
    | (apply r_kUnT; fail "st"; with_unfolding_all rfl) | (apply r_kIL; fail "sl") | (apply r_kIT; fail "st") | (apply r_kIE; fail "st") )))
local macro_rules | `(tactic| fail "eg") => `(tactic| repeat (first
  | apply stp
  | (refine e_rul0 (fun _ => ?_))

  | (refine e_tup0 (fun _ => ?_)) ))
local macro_rules | `(tactic| fail "egs") => `(tactic| (try (with_reducible refine e_seq ?_)) <;> repeat (first
  | apply stp
  | (with_reducible refine e_seq ?_)
  | (refine e_rul0 (fun _ => ?_))

  | (refine e_tup0 (fun _ => ?_)) ))
section
variable {P : Program} {w : World} {K : PySem.W.Frag} {mg : Str → Option Value} {base : Heap} {a : Adr}
theorem e_un2 {Pl : List As} {q : Addr} {x y : Int} {r : List Int} {t : TGs} {σ : St} {Q : St → Hp → Prop} [s : Sees Pl q (.lst ((x :: y :: r).map V.int))] (hz : r.length ≤ 1000)
    (k : ∀ p, Ent (At (.ref p) (LstX (r.map V.int)) :: Pl) (fun H => t [.int x, .int y, .ref p] σ H Q)) : Ent Pl (fun H => gUnS K 3 2 t (.ref q) σ H Q) := fun H h => by
  refine ⟨q, _, rfl, SqL.of (s.sees H h), by simp, by simp; omega, fun p np => ?_⟩
  have e1 : ((x :: y :: r).map V.int).drop 2 = r.map V.int := rfl
  have e2 : ((x :: y :: r).map V.int).length + 1 - 3 = (r.map V.int).length := by simp
  rw [e1, e2, List.take_length, List.drop_length]
  exact k p _ (h.new np ⟨p, rfl, upd_same⟩ fun _ e => by cases e)
theorem ixN_at {n i : Nat} (h : i < n) : ixN n (i : Int) = some i := by
  unfold ixN
  rw [if_pos (by omega)]
  split <;> first | omega | simp
end
end Qn

/-! U5: a play's methods: note, tick. -/
namespace Qn
open PySem L2
local macro_rules | `(tactic| fail "ne") => `(tactic| first | assumption | (apply Ne.symm; assumption) | (apply ne_of_none; assumption; assumption) | (apply Ne.symm; apply ne_of_none; assumption; assumption) | (apply ne_of; assumption; assumption; (intro z; cases z)))
local macro_rules | `(tactic| fail "hp") => `(tactic| with_reducible first | assumption | apply upd_same | (apply upd_old; rotate_left; assumption; fail "hp") | (apply upd_oth; rotate_left; fail "ne"; fail "hp"))
local macro_rules | `(tactic| fail "sl") => `(tactic| with_reducible first | assumption | (apply SqL.of; fail "hp"))
local macro_rules | `(tactic| fail "st") => `(tactic| with_reducible first | assumption | (apply SqT.of; fail "hp"))
local macro_rules | `(tactic| fail "tx") => `(tactic| with_reducible first | assumption | (apply Txt.c_Reader; assumption) | (apply Txt.n_Reader_head; assumption) | (apply Txt.n_Reader_read_lines; assumption) | (apply Txt.n_Reader_read_tasks; assumption))
local macro_rules | `(tactic| fail "lk") => `(tactic| with_reducible first | assumption | apply lk_LF_rules | apply lk_LF_cards | apply lk_LF_rows | apply lk_LF_time | apply lk_CF_line | apply lk_CF_quantum | apply lk_CF_share | apply lk_CF_is_ready | apply lk_CF_spent | (apply lk_LF_no; decide +kernel; decide +kernel; decide +kernel; decide +kernel))
local macro_rules | `(tactic| fail "at") => `(tactic| with_reducible first | assumption | apply mc_0 | apply mc_1 | apply mc_2 | apply mc_3 | apply mc_4 | apply at_0 | apply at_1 | apply at_2 | apply at_3 | apply at_4 | (apply atI_nat; assumption) | (apply at_z; assumption))
local macro_rules | `(tactic| fail "go") => `(tactic| repeat (first
  | apply rd_step
  | with_reducible (first
    | (apply r_kFld; fail "hp"; fail "tx"; fail "tx"; fail "lk")
    | (apply r_ixL; fail "sl"; fail "at") | (apply r_ixT; fail "st"; fail "at")
    | (apply r_kMeth; fail "hp"; fail "lk") | (apply r_kBML; fail "sl")
    | (apply r_lenL; fail "sl") | (apply r_lenT; fail "st") | (apply r_lenD; fail "hp")
    | (apply r_kDGetI; fail "hp"; (first | assumption | rfl)) | (apply r_kDGetS; fail "hp"; (first | assumption | apply mv_rules | apply mv_rows | apply mv_cards | apply mv_now)) | (apply r_kDInI; fail "hp") | (apply r_kDNotInI; fail "hp")
    | (apply r_kAugF; fail "hp"; fail "tx"; fail "tx"; fail "lk")
    | (apply r_isi_tuple_tuple; fail "st") | (apply r_isi_list_tuple; fail "sl") | (apply r_isi_list_list; fail "sl") | (apply r_isi_tuple_list; fail "st")
    | (apply r_kUnT; fail "st"; with_unfolding_all rfl) | (apply r_kIL; fail "sl") | (apply r_kIT; fail "st") | (apply r_kIE; fail "st") )))
local macro_rules | `(tactic| fail "eg") => `(tactic| repeat (first
  | apply stp
  | (refine e_rul0 (fun _ => ?_))

  | (refine e_tup0 (fun _ => ?_)) ))
local macro_rules | `(tactic| fail "egs") => `(tactic| (try (with_reducible refine e_seq ?_)) <;> repeat (first
  | apply stp
  | (with_reducible refine e_seq ?_)
  | (refine e_rul0 (fun _ => ?_))

  | (refine e_tup0 (fun _ => ?_)) ))
/-- who ran, at which line; None -/
def RanX (o : Option (Int × Nat)) : Ty := fun v => ⟨fun k _ => match o with | none => v = .non | some (t, l) => ∃ p, v = .ref p ∧ k p = some (.tup [.int t, .int l]), by
  intro k k' h s y
  cases o with
  | none => exact y
  | some x => obtain ⟨p, e, z⟩ := y; exact ⟨p, e, s _ _ z⟩⟩
def runD (x : Int × Int × Int × Int) : PyData := .tuple [.int x.1, .int x.2.1, .int x.2.2.1, .int x.2.2.2]
section
variable {P : Program} {w : World} {K : PySem.W.Frag} {mg : Str → Option Value} {base : Heap} {a : Adr}
theorem runs_dp {fs : List Addr} {found : List (Int × Int × Int × Int)} {H : Hp} : ∀ (fs : List Addr) (found : List (Int × Int × Int × Int)), fs.length = found.length → RunF fs found H → DpAll K H (fs.map V.ref) (found.map runD)
  | [], [], _, _ => .nil
  | f :: fs, x :: r, hl, h => .cons (.tup (SqT.of (h 0 f x rfl rfl)) (.cons (.int _) (.cons (.int _) (.cons (.int _) (.cons (.int _) .nil))))) (runs_dp (fs := fs) (found := r) fs r (by simpa using hl) fun i q y e1 e2 => h (i + 1) q y e1 e2)
  | [], _ :: _, hl, _ => by cases hl
  | _ :: _, [], hl, _ => by cases hl
class Ln (n m : Nat) : Prop where
  eq : n = m
instance has_runs {Pl F : List As} {fs : List Addr} {found : List (Int × Int × Int × Int)} [t : Take Pl (.int 3) (Kn (RunF fs found) RunF.mono) F] [hl : Ln fs.length found.length] : HasDs K Pl (fs.map V.ref) (found.map runD) := ⟨fun H s => by
  obtain ⟨k, h, s1, s2, x, q⟩ := s.tell (t := t)
  exact runs_dp (fs := fs) (found := found) fs found hl.eq (RunF.mono s1 q)⟩
theorem e_ipI {Pl : List As} {f : Int → Int → Int} {i j : Int} {Q : VK} (k : Ent Pl (fun H => Q (.int (f i j)) H)) : Ent Pl (fun H => ipI f (.int i) (.int j) H Q) := fun H s => ⟨i, j, rfl, rfl, k H s⟩
theorem e_popL {Pl F : List As} {l : Addr} {xs : List V} {y : V} {Q : VK} [t : Take Pl (.ref l) (LstX (xs ++ [y])) F] (k : Ent (At (.ref l) (LstX xs) :: F) (fun H => Q y H)) : Ent Pl (fun H => rPop (.ref l) [] H Q) := fun H s => by
  have s' := s.imp t.tk
  refine ⟨l, _, y, rfl, rfl, Sat.sees (F := F) s', by simp, ?_⟩
  rw [List.dropLast_concat]
  exact k _ (s'.set _ fun _ e => by cases e)
theorem sh_runs {found : List (Int × Int × Int × Int)} : Sh 2 (.list (found.map runD)) := sh_lst (sh_map fun x => sh_tup (n := 0) (sh_cons sh_int (sh_cons sh_int (sh_cons sh_int (sh_cons sh_int sh_nil)))))
theorem eqv_three {u1 u2 u3 v1 v2 v3 : Int} : PyData.eqv (.tuple [.int u1, .int u2, .int u3]) (.tuple [.int v1, .int v2, .int v3]) = decide ((u1, u2, u3) = (v1, v2, v3)) := by
  simp [PyData.eqv, PyData.eqvAll]
  rfl
theorem joinF_snoc {fd : List (Int × Int × Int × Int)} {x : Int × Int × Int × Int} {b e t l : Int} : joinF (fd ++ [x]) b e t l = if x.2 = (b, t, l) then fd ++ [(x.1, e, t, l)] else (fd ++ [x]) ++ [(b, e, t, l)] := by
  unfold joinF
  rw [List.getLast?_concat]
  dsimp only
  rw [List.dropLast_concat]
end
end Qn

/-! U6: a play's methods: tick. -/
namespace Qn
open PySem L2
local macro_rules | `(tactic| fail "ne") => `(tactic| first | assumption | (apply Ne.symm; assumption) | (apply ne_of_none; assumption; assumption) | (apply Ne.symm; apply ne_of_none; assumption; assumption) | (apply ne_of; assumption; assumption; (intro z; cases z)))
local macro_rules | `(tactic| fail "hp") => `(tactic| with_reducible first | assumption | apply upd_same | (apply upd_old; rotate_left; assumption; fail "hp") | (apply upd_oth; rotate_left; fail "ne"; fail "hp"))
local macro_rules | `(tactic| fail "sl") => `(tactic| with_reducible first | assumption | (apply SqL.of; fail "hp"))
local macro_rules | `(tactic| fail "st") => `(tactic| with_reducible first | assumption | (apply SqT.of; fail "hp"))
local macro_rules | `(tactic| fail "tx") => `(tactic| with_reducible first | assumption | (apply Txt.c_Reader; assumption) | (apply Txt.n_Reader_head; assumption) | (apply Txt.n_Reader_read_lines; assumption) | (apply Txt.n_Reader_read_tasks; assumption))
local macro_rules | `(tactic| fail "lk") => `(tactic| with_reducible first | assumption | apply lk_LF_rules | apply lk_LF_cards | apply lk_LF_rows | apply lk_LF_time | apply lk_CF_line | apply lk_CF_quantum | apply lk_CF_share | apply lk_CF_is_ready | apply lk_CF_spent | (apply lk_LF_no; decide +kernel; decide +kernel; decide +kernel; decide +kernel))
local macro_rules | `(tactic| fail "at") => `(tactic| with_reducible first | assumption | apply mc_0 | apply mc_1 | apply mc_2 | apply mc_3 | apply mc_4 | apply at_0 | apply at_1 | apply at_2 | apply at_3 | apply at_4 | (apply atI_nat; assumption) | (apply at_z; assumption))
local macro_rules | `(tactic| fail "go") => `(tactic| repeat (first
  | apply rd_step
  | with_reducible (first
    | (apply r_kFld; fail "hp"; fail "tx"; fail "tx"; fail "lk")
    | (apply r_ixL; fail "sl"; fail "at") | (apply r_ixT; fail "st"; fail "at")
    | (apply r_kMeth; fail "hp"; fail "lk") | (apply r_kBML; fail "sl")
    | (apply r_lenL; fail "sl") | (apply r_lenT; fail "st") | (apply r_lenD; fail "hp")
    | (apply r_kDGetI; fail "hp"; (first | assumption | rfl)) | (apply r_kDGetS; fail "hp"; (first | assumption | apply mv_rules | apply mv_rows | apply mv_cards | apply mv_now)) | (apply r_kDInI; fail "hp") | (apply r_kDNotInI; fail "hp")
    | (apply r_kAugF; fail "hp"; fail "tx"; fail "tx"; fail "lk")
    | (apply r_isi_tuple_tuple; fail "st") | (apply r_isi_list_tuple; fail "sl") | (apply r_isi_list_list; fail "sl") | (apply r_isi_tuple_list; fail "st")
    | (apply r_kUnT; fail "st"; with_unfolding_all rfl) | (apply r_kIL; fail "sl") | (apply r_kIT; fail "st") | (apply r_kIE; fail "st") )))
local macro_rules | `(tactic| fail "eg") => `(tactic| repeat (first
  | apply stp
  | (refine e_rul0 (fun _ => ?_))

  | (refine e_tup0 (fun _ => ?_)) ))
local macro_rules | `(tactic| fail "egs") => `(tactic| (try (with_reducible refine e_seq ?_)) <;> repeat (first
  | apply stp
  | (with_reducible refine e_seq ?_)
  | (refine e_rul0 (fun _ => ?_))

  | (refine e_tup0 (fun _ => ?_)) ))
section
variable {P : Program} {w : World} {K : PySem.W.Frag} {mg : Str → Option Value} {base : Heap} {a : Adr}
theorem e_ranN {Pl : List As} {X : Hp → Prop} (k : Ent (At .non (RanX none) :: Pl) X) : Ent Pl X := k.mono fun k h s => ⟨hnil, h, same_nil, Same.refl _, apart_nil, rfl, s⟩
theorem e_ranS {Pl F : List As} {X : Hp → Prop} {pr : Addr} {t : Int} {l : Nat} [tk : Take Pl (.ref pr) (KTup [.int t, .int l]) F] (k : Ent (At (.ref pr) (RanX (some (t, l))) :: F) X) : Ent Pl X := k.mono fun k h s => by
  obtain ⟨h1, h2, s1, s2, x, ⟨p, e, y⟩, z⟩ := tk.tk k h s
  exact ⟨h1, h2, s1, s2, x, ⟨p, e, y⟩, z⟩
theorem runOk_note {R : Rul} {p : Ply} {n : Nat} {m : Int} (h : RunOk p) (wf : Wf n [] p.S) : ∀ t l, p.S.ran = some (t, l) → ∃ (i : Nat) (c : Card) (xs : List Int), t = i ∧ look (p.S.run R m).cards i = some c ∧ c.rdy = true ∧ p.left[i]? = some xs ∧ xs.length % 2 = 1 ∧ xs.length ≤ 1000 ∧ i < p.ends.length := fun t l e => by
  unfold LSt.ran at e
  cases f : p.S.first with
  | none => rw [f] at e; cases e
  | some u =>
    rw [f] at e
    cases Option.some.inj e
    obtain ⟨i, xs, rfl, h1, h2, h3, h4⟩ := h _ f
    obtain ⟨c, c1, c2, _, _, _, c6, _⟩ := run_some (R := R) (m := m) wf f
    exact ⟨i, chg R n c m, xs, rfl, by rw [c6, if_pos rfl], c2, h1, h2, h3, h4⟩
end
end Qn

/-! U7: tasks refused or let by; a play's begin; ticked. -/
namespace Qn
open PySem L2
local macro_rules | `(tactic| fail "ne") => `(tactic| first | assumption | (apply Ne.symm; assumption) | (apply ne_of_none; assumption; assumption) | (apply Ne.symm; apply ne_of_none; assumption; assumption) | (apply ne_of; assumption; assumption; (intro z; cases z)))
local macro_rules | `(tactic| fail "hp") => `(tactic| with_reducible first | assumption | apply upd_same | (apply upd_old; rotate_left; assumption; fail "hp") | (apply upd_oth; rotate_left; fail "ne"; fail "hp"))
local macro_rules | `(tactic| fail "sl") => `(tactic| with_reducible first | assumption | (apply SqL.of; fail "hp"))
local macro_rules | `(tactic| fail "st") => `(tactic| with_reducible first | assumption | (apply SqT.of; fail "hp"))
local macro_rules | `(tactic| fail "tx") => `(tactic| with_reducible first | assumption | (apply Txt.c_Reader; assumption) | (apply Txt.n_Reader_head; assumption) | (apply Txt.n_Reader_read_lines; assumption) | (apply Txt.n_Reader_read_tasks; assumption))
local macro_rules | `(tactic| fail "lk") => `(tactic| with_reducible first | assumption | apply lk_LF_rules | apply lk_LF_cards | apply lk_LF_rows | apply lk_LF_time | apply lk_CF_line | apply lk_CF_quantum | apply lk_CF_share | apply lk_CF_is_ready | apply lk_CF_spent | (apply lk_LF_no; decide +kernel; decide +kernel; decide +kernel; decide +kernel))
local macro_rules | `(tactic| fail "at") => `(tactic| with_reducible first | assumption | apply mc_0 | apply mc_1 | apply mc_2 | apply mc_3 | apply mc_4 | apply at_0 | apply at_1 | apply at_2 | apply at_3 | apply at_4 | (apply atI_nat; assumption) | (apply at_z; assumption))
local macro_rules | `(tactic| fail "go") => `(tactic| repeat (first
  | apply rd_step
  | with_reducible (first
    | (apply r_kFld; fail "hp"; fail "tx"; fail "tx"; fail "lk")
    | (apply r_ixL; fail "sl"; fail "at") | (apply r_ixT; fail "st"; fail "at")
    | (apply r_kMeth; fail "hp"; fail "lk") | (apply r_kBML; fail "sl")
    | (apply r_lenL; fail "sl") | (apply r_lenT; fail "st") | (apply r_lenD; fail "hp")
    | (apply r_kDGetI; fail "hp"; (first | assumption | rfl)) | (apply r_kDGetS; fail "hp"; (first | assumption | apply mv_rules | apply mv_rows | apply mv_cards | apply mv_now)) | (apply r_kDInI; fail "hp") | (apply r_kDNotInI; fail "hp")
    | (apply r_kAugF; fail "hp"; fail "tx"; fail "tx"; fail "lk")
    | (apply r_isi_tuple_tuple; fail "st") | (apply r_isi_list_tuple; fail "sl") | (apply r_isi_list_list; fail "sl") | (apply r_isi_tuple_list; fail "st")
    | (apply r_kUnT; fail "st"; with_unfolding_all rfl) | (apply r_kIL; fail "sl") | (apply r_kIT; fail "st") | (apply r_kIE; fail "st") )))
local macro_rules | `(tactic| fail "eg") => `(tactic| repeat (first
  | apply stp
  | (refine e_rul0 (fun _ => ?_))

  | (refine e_tup0 (fun _ => ?_)) ))
local macro_rules | `(tactic| fail "egs") => `(tactic| (try (with_reducible refine e_seq ?_)) <;> repeat (first
  | apply stp
  | (with_reducible refine e_seq ?_)
  | (refine e_rul0 (fun _ => ?_))

  | (refine e_tup0 (fun _ => ?_)) ))
section
variable {P : Program} {w : World} {K : PySem.W.Frag} {mg : Str → Option Value} {base : Heap} {a : Adr}
instance sp_isiTT {Pl : List As} {p : Addr} {xs : List V} {Q : VK} [s : Sees Pl p (.tup xs)] : Stp Pl (fun H => rIsi K [.ref p, .ty "tuple"] H Q) Pl (fun H => Q (.bl true) H) := ⟨fun k H h => r_isi_tuple_tuple (SqT.of (s.sees H h)) (k H h)⟩
theorem e_isnum {Pl : List As} {x : V} {lo hi : Int} {Q : VK} {E : XK} (hp : plainV x = true) (k : Ent Pl (fun H => Q (.bl (numB x lo hi)) H)) : Ent Pl (fun H => sp_is_number K a [x, .int lo, .int hi] H Q E) := fun H s => sp3_mk ⟨lo, hi, hp, rfl, rfl, k H s⟩
theorem e_all {Pl : List As} {p : Addr} {bs : List Bool} {Q : VK} [s : Sees Pl p (.lst (bs.map V.bl))] (k : Ent Pl (fun H => Q (.bl (bs.all id)) H)) : Ent Pl (fun H => rAll K [.ref p] H Q) := fun H h => ⟨p, bs, rfl, SqL.of (s.sees H h), k H h⟩
theorem numB_int {i lo hi : Int} (h : lo ≤ i ∧ i ≤ hi) : numB (.int i) lo hi = true := by show (decide (lo ≤ i) && decide (i ≤ hi)) = _; simp; omega
def sp_is_bursts (K : PySem.W.Frag) (a : Adr) : Sp := sp1 fun x H Q _ => ∃ (b : Addr) (bs : List Int) (F : List As), x = .ref b ∧ Sat (At (.ref b) (KTup (bs.map V.int)) :: F) H ∧ BurOk bs ∧ Ent F (fun H' => Q (.bl true) H')
theorem ok_is_bursts (T : Txt K mg a) : Cal P w K mg base CX0 2 "is_bursts" ["bursts"] (sp_is_bursts K a) := by
  obtain ⟨fd, F, b⟩ := T.f_is_bursts
  refine ⟨a.is_bursts, fd, F.ok sc_is_bursts (fun vs H Q E h => sp1_len h) (fun cdv A outer s H vs Q E hr h => ?_), T.g_is_bursts, F.kp, b⟩
  refine ⟨_, (pss_cons (ps_if (PW.pt (pw_or (pt_not (pt_val (pe_callB call_isi (by rfl) T.z_isinstance (by decide +kernel) (pa_cons (pv 0) (pa_cons (q_bty (T := "tuple") (by rfl) T.z_tuple (by decide +kernel)) pa_nil))))) (pw_or (pt_cmpR op_eq (pe_op qo_mod (pe_callB qr_len (by rfl) T.z_len (by decide +kernel) (pa_cons (pv 0) pa_nil)) pe_int) pe_int (nomark _)) (pw_or1 (pt_cmpR qo_gt (pe_callB qr_len (by rfl) T.z_len (by decide +kernel) (pa_cons (pv 0) pa_nil)) (q_cI T.g_MOST_BURSTS) (nomark _))))))
 (pss_one (ps_ret pe_bl))
 pss_nil)
 (pss_one (ps_ret (pe_callB (cr_all rfl) (by rfl) T.z_all (by decide +kernel) (pa_cons (pe_lc (own := [("burst", 1)]) (g := (gName 1)) (tt := tYes) (te := (tCall (sp_is_number K a) [] E0 (tCons (tVar 1) (tCons (tC (V.int (1))) (tCons (tC (V.int 40)) tNil))))) rfl sc_is_bursts.nd (pi_tup (pv 0)) (blkOk_by (N := N_is_bursts) (sc := (defScope s_is_bursts)) (by decide +kernel)) (fun _ _ _ _ _ => (pg_name (i := 1) sc_is_bursts.nd rfl (Or.inl rfl))) (fun _ _ _ _ _ => pts_nil) (fun _ _ _ _ _ => (q_call (ok_is_number T) (hr.mono (by decide)) pass0 (pa_cons (pv 1) (pa_cons pe_int (pa_cons (q_cI T.g_MOST_BURST) pa_nil)))))) pa_nil))))), ?_⟩
  try dsimp only [cxOf, Cx.nox, Cx.wish, List.map_cons, List.map_nil]
  obtain ⟨x, rfl, h⟩ := h
  rw [show L2.start N_is_bursts [x] = [some x, none] from rfl]
  obtain ⟨b, bs, F, rfl, s, ⟨b1, b2, b3⟩, k⟩ := h
  refine Ent.at s ?_
  clear s
  fail "eg"
  refine e_mod (by omega) ?_
  fail "eg"
  refine e_FD (by rw [List.length_map]; omega) ?_
  fail "eg"
  refine e_FD (by rw [List.length_map]; omega) ?_
  fail "eg"
  refine e_lcGT bs (fun _ => some (.bl true)) inferInstance (List.length_map _) (fun D i x u hx hu => ?_) fun D => ?_
  · rw [List.getElem?_map, hu] at hx
    cases Option.some.inj hx
    fail "eg"
    refine e_and rfl ?_
    fail "eg"
    refine e_isnum rfl ?_
    rw [numB_int (b3 u (List.mem_of_getElem? hu))]
    exact e_some hu rfl (by omega) inferInstance
  · rw [show bs.filterMap (fun _ => some (V.bl true)) = (bs.map fun _ => true).map V.bl by simp]
    fail "eg"
    refine e_all ?_
    rw [show (bs.map fun _ => true).all id = true by simp]
    exact k.to
theorem e_bursts {Pl F : List As} {b : Addr} {bs : List Int} {Q : VK} {E : XK} [t : Take Pl (.ref b) (KTup (bs.map V.int)) F] (hb : BurOk bs) (k : Ent F (fun H => Q (.bl true) H)) : Ent Pl (fun H => sp_is_bursts K a [.ref b] H Q E) := fun H s => sp1_mk ⟨b, bs, F, rfl, s.imp t.tk, hb, k⟩
/-- tasks as they are handed in, known -/
def TskF (qs : List Addr) (ts : List (Int × List Int)) (k : Hp) : Prop := ∀ (i : Nat) (q : Addr) (m : Int) (bs : List Int), qs[i]? = some q → ts[i]? = some (m, bs) → ∃ b, k q = some (.tup [.int m, .ref b]) ∧ k b = some (.tup (bs.map V.int))
theorem TskF.mono {qs : List Addr} {ts : List (Int × List Int)} {k k' : Hp} (s : Same k k') (h : TskF qs ts k) : TskF qs ts k' := fun i q m bs e1 e2 => by
  obtain ⟨b, h1, h2⟩ := h i q m bs e1 e2
  exact ⟨b, s _ _ h1, s _ _ h2⟩
def kIEL (K : PySem.W.Frag) (vs : List V) (H : Hp) (R : It → Hp → Prop) : Prop := ∃ a xs, vs = [.ref a] ∧ SqL K H a xs ∧ R (Ite K a) H
instance rd_iEnumL {t : TA} {σ : St} {H : Hp} {R : It → Hp → Prop} : Qn.Rd (iEnum K t σ H R) (t σ H fun vs H1 => kIEL K vs H1 R) := ⟨id⟩
instance sp_kIEL {Pl : List As} {p : Addr} {xs : List V} {R : It → Hp → Prop} [s : Sees Pl p (.lst xs)] : Stp Pl (fun H => kIEL K [.ref p] H R) Pl (fun H => R (Ite K p) H) := ⟨fun k H h => ⟨p, xs, rfl, SqL.of (s.sees H h), k H h⟩⟩
theorem e_forE {Pl : List As} {p : Addr} {g : TG} {tb : TS} {D : Ends} {σ : St} (xs : List V) (I : Nat → St → List As → Prop) {P0 : List As} (h0 : I 0 σ P0) [m0 : Imp Pl P0] (hG : ∀ i σ P, I i σ P → ∀ H, Sat P H → H p = some (.lst xs))
    (hs : ∀ i x σ P T, xs[i]? = some x → I i σ P → Ent (At (.ref T) (KTup [.int (i : Nat), x]) :: P) (fun H => g (.ref T) σ H fun σ2 H2 => tb { D with nx := nxJ I (i + 1), ct := nxJ I (i + 1), bk := D.nx } σ2 H2))
    (hd : ∀ σ P, I xs.length σ P → Ent P (fun H => D.nx σ H)) : Ent Pl (fun H => kFor (Ite K p) g tb D σ H) :=
  Ent.to (Q := P0) <| e_for (walk_enum (K := K) (a := p) (xs := xs)) I h0 (fun i σ P _ q H s => SqL.of (hG i σ P q H s)) (fun i σ P hi q x H H' s y => by
    obtain ⟨T, u, v, rfl, nT, rfl, e1, e2⟩ := y
    cases Option.some.inj e1
    exact hs i v σ P T e2 q _ (s.newK nT ⟨T, rfl, upd_same⟩)) hd
theorem e_tsk {Pl : List As} {qs : List Addr} {ts : List (Int × List Int)} {i : Nat} {q : Addr} {m : Int} {bs : List Int} {X : Hp → Prop} (hf : ∀ k h, SatL Pl k h → TskF qs ts k) (hq : qs[i]? = some q) (ht : ts[i]? = some (m, bs))
    (k : ∀ b, Ent (At (.ref q) (KTup [.int m, .ref b]) :: At (.ref b) (KTup (bs.map V.int)) :: Pl) X) : Ent Pl X := fun H s => by
  obtain ⟨k0, h, s1, s2, x, nt, y⟩ := s
  obtain ⟨b, e1, e2⟩ := hf k0 h y i q m bs hq ht
  exact k b H ⟨k0, h, s1, s2, x, nt, hnil, h, same_nil, Same.refl _, apart_nil, ⟨q, rfl, e1⟩, hnil, h, same_nil, Same.refl _, apart_nil, ⟨b, rfl, e2⟩, y⟩
def sp_need_tasks (K : PySem.W.Frag) (a : Adr) : Sp := sp1 fun x H Q _ => ∃ (D : Addr) (qs : List Addr) (ts : List (Int × List Int)) (F : List As), x = .ref D ∧ Sat F H ∧ (Sees F D (.lst (qs.map V.ref))) ∧ (∀ k h, SatL F k h → TskF qs ts k) ∧ qs.length = ts.length ∧ TasksOk ts ∧ Ent F (fun H' => Q .non H')
theorem ok_need_tasks (T : Txt K mg a) : Cal P w K mg base CX0 3 "need_tasks" ["tasks"] (sp_need_tasks K a) := by
  obtain ⟨fd, F, b⟩ := T.f_need_tasks
  refine ⟨a.need_tasks, fd, F.ok sc_need_tasks (fun vs H Q E h => sp1_len h) (fun cdv A outer s H vs Q E hr h => ?_), T.g_need_tasks, F.kp, b⟩
  refine ⟨_, (pss_one (ps_for PassesOwn.never rfl (pi_enum (by rfl) T.z_enumerate (pa_cons (pv 0) pa_nil)) (pg_tup (n := 2) rfl (pgs_cons (pg_name (i := 1) sc_need_tasks.nd rfl (Or.inl rfl)) (pgs_cons (pg_name (i := 2) sc_need_tasks.nd rfl (Or.inl rfl)) pgs_nil)))
 (pss_cons (ps_if (PW.pt (pw_or (pt_cmpR qo_ge (pv 1) (q_cI T.g_MOST_TASKS) (nomark _)) (pw_or (pt_not (pt_val (pe_callB call_isi (by rfl) T.z_isinstance (by decide +kernel) (pa_cons (pv 2) (pa_cons (q_bty (T := "tuple") (by rfl) T.z_tuple (by decide +kernel)) pa_nil))))) (pw_or1 (pt_cmpR op_ne (pe_callB qr_len (by rfl) T.z_len (by decide +kernel) (pa_cons (pv 2) pa_nil)) pe_int (nomark _))))))
 pss_never
 pss_nil)
 (pss_one (ps_if (PW.pt (pw_or (pt_not (pt_val (q_call (ok_is_number T) (hr.mono (by decide)) pass0 (pa_cons (pe_ix ix_tup (pv 2) pe_int (fun _ _ => rfl)) (pa_cons pe_int (pa_cons (q_cI T.g_MOST_UNTIL) pa_nil)))))) (pw_or1 (pt_not (pt_val (q_call (ok_is_bursts T) (hr.mono (by decide)) pass0 (pa_cons (pe_ix ix_tup (pv 2) pe_int (fun _ _ => rfl)) pa_nil)))))))
 pss_never
 pss_nil))))), ?_⟩
  try dsimp only [cxOf, Cx.nox, Cx.wish, List.map_cons, List.map_nil]
  obtain ⟨x, rfl, h⟩ := h
  rw [show L2.start N_need_tasks [x] = [some x, none, none] from rfl]
  obtain ⟨D, qs, ts, F, rfl, s, se, tf, hl, ⟨h12, ho⟩, k⟩ := h
  refine Ent.at s ?_
  clear s
  fail "eg"
  refine e_forE (qs.map V.ref) (fun i σ P' => ∃ v1 v2, σ = [some (.ref D), v1, v2] ∧ P' = F) ⟨_, _, rfl, rfl⟩ (fun i σ P' h H s => by obtain ⟨_, _, _, rfl⟩ := h; exact se.sees H s) ?_ ?_
  · rintro i x σ P' T' hx ⟨v1, v2, rfl, rfl⟩
    rw [List.getElem?_map] at hx
    obtain ⟨q, hq, rfl⟩ := Option.map_eq_some_iff.mp hx
    have hi : i < ts.length := by have := (List.getElem?_eq_some_iff.mp hq).1; omega
    have ht : ts[i]? = some (ts[i].1, ts[i].2) := List.getElem?_eq_getElem hi
    obtain ⟨o1, o2, o3⟩ := ho _ (List.getElem_mem hi)
    generalize ts[i] = tm at ht o1 o2 o3
    refine e_tsk (fun k h s => tf k h s.tail) hq ht fun b => ?_
    fail "eg"
    refine e_FD (by omega) ?_
    fail "eg"
    refine e_FN rfl ?_
    fail "eg"
    refine e_isnum rfl ?_
    rw [numB_int ⟨o1, o2⟩]
    fail "eg"
    refine e_bursts o3 ?_
    fail "eg"
    refine e_nx ?_
    exact ⟨_, ⟨_, _, rfl, rfl⟩, inferInstance⟩
  · rintro σ P' ⟨v1, v2, rfl, rfl⟩
    fail "eg"
    exact k
theorem e_needTasks {Pl : List As} {D : Addr} {qs : List Addr} {ts : List (Int × List Int)} {Q : VK} {E : XK} [se : Sees Pl D (.lst (qs.map V.ref))] (tf : ∀ k h, SatL Pl k h → TskF qs ts k) (hl : qs.length = ts.length) (ok : TasksOk ts) (k : Ent Pl (fun H => Q .non H)) :
    Ent Pl (fun H => sp_need_tasks K a [.ref D] H Q E) := fun H s => sp1_mk ⟨D, qs, ts, Pl, rfl, s, se, tf, hl, ok, k⟩
theorem e_needRules {Pl F : List As} {ra : Addr} {R : Rul} {Q : VK} {E : XK} [t : Take Pl (.ref ra) (RulX R) F] (ok : R.Ok) (k : Ent Pl (fun H => Q .non H)) : Ent Pl (fun H => sp_need_rules K a [.ref ra] H Q E) := fun H s => by
  obtain ⟨k0, h, s1, s2, x, ra', la, ps, e, r⟩ := s.tell (t := t)
  cases e
  exact sp1_mk ⟨ra, R, la, ps, rfl, r.same s1, ok, fun H' z => k H' (s.same z)⟩
end
end Qn

/-! U8: a play's begin. -/
namespace Qn
open PySem L2
local macro_rules | `(tactic| fail "ne") => `(tactic| first | assumption | (apply Ne.symm; assumption) | (apply ne_of_none; assumption; assumption) | (apply Ne.symm; apply ne_of_none; assumption; assumption) | (apply ne_of; assumption; assumption; (intro z; cases z)))
local macro_rules | `(tactic| fail "hp") => `(tactic| with_reducible first | assumption | apply upd_same | (apply upd_old; rotate_left; assumption; fail "hp") | (apply upd_oth; rotate_left; fail "ne"; fail "hp"))
local macro_rules | `(tactic| fail "sl") => `(tactic| with_reducible first | assumption | (apply SqL.of; fail "hp"))
local macro_rules | `(tactic| fail "st") => `(tactic| with_reducible first | assumption | (apply SqT.of; fail "hp"))
local macro_rules | `(tactic| fail "tx") => `(tactic| with_reducible first | assumption | (apply Txt.c_Reader; assumption) | (apply Txt.n_Reader_head; assumption) | (apply Txt.n_Reader_read_lines; assumption) | (apply Txt.n_Reader_read_tasks; assumption))
local macro_rules | `(tactic| fail "lk") => `(tactic| with_reducible first | assumption | apply lk_LF_rules | apply lk_LF_cards | apply lk_LF_rows | apply lk_LF_time | apply lk_CF_line | apply lk_CF_quantum | apply lk_CF_share | apply lk_CF_is_ready | apply lk_CF_spent | (apply lk_LF_no; decide +kernel; decide +kernel; decide +kernel; decide +kernel))
local macro_rules | `(tactic| fail "at") => `(tactic| with_reducible first | assumption | apply mc_0 | apply mc_1 | apply mc_2 | apply mc_3 | apply mc_4 | apply at_0 | apply at_1 | apply at_2 | apply at_3 | apply at_4 | (apply atI_nat; assumption) | (apply at_z; assumption))
local macro_rules | `(tactic| fail "go") => `(tactic| repeat (first
  | apply rd_step
  | with_reducible (first
    | (apply r_kFld; fail "hp"; fail "tx"; fail "tx"; fail "lk")
    | (apply r_ixL; fail "sl"; fail "at") | (apply r_ixT; fail "st"; fail "at")
    | (apply r_kMeth; fail "hp"; fail "lk") | (apply r_kBML; fail "sl")
    | (apply r_lenL; fail "sl") | (apply r_lenT; fail "st") | (apply r_lenD; fail "hp")
    | (apply r_kDGetI; fail "hp"; (first | assumption | rfl)) | (apply r_kDGetS; fail "hp"; (first | assumption | apply mv_rules | apply mv_rows | apply mv_cards | apply mv_now)) | (apply r_kDInI; fail "hp") | (apply r_kDNotInI; fail "hp")
    | (apply r_kAugF; fail "hp"; fail "tx"; fail "tx"; fail "lk")
    | (apply r_isi_tuple_tuple; fail "st") | (apply r_isi_list_tuple; fail "sl") | (apply r_isi_list_list; fail "sl") | (apply r_isi_tuple_list; fail "st")
    | (apply r_kUnT; fail "st"; with_unfolding_all rfl) | (apply r_kIL; fail "sl") | (apply r_kIT; fail "st") | (apply r_kIE; fail "st") )))
local macro_rules | `(tactic| fail "eg") => `(tactic| repeat (first
  | apply stp
  | (refine e_rul0 (fun _ => ?_))

  | (refine e_tup0 (fun _ => ?_)) ))
local macro_rules | `(tactic| fail "egs") => `(tactic| (try (with_reducible refine e_seq ?_)) <;> repeat (first
  | apply stp
  | (with_reducible refine e_seq ?_)
  | (refine e_rul0 (fun _ => ?_))

  | (refine e_tup0 (fun _ => ?_)) ))
section
variable {P : Program} {w : World} {K : PySem.W.Frag} {mg : Str → Option Value} {base : Heap} {a : Adr}
instance (priority := 50) sees_skip {A : As} {Pl : List As} {p : Addr} {o : HO} [s : Sees Pl p o] : Sees (A :: Pl) p o := ⟨fun H h => s.sees H (h.imp fun _ _ z => z.tail)⟩
end
end Qn

/-! U9: ticked. -/
namespace Qn
open PySem L2
local macro_rules | `(tactic| fail "ne") => `(tactic| first | assumption | (apply Ne.symm; assumption) | (apply ne_of_none; assumption; assumption) | (apply Ne.symm; apply ne_of_none; assumption; assumption) | (apply ne_of; assumption; assumption; (intro z; cases z)))
local macro_rules | `(tactic| fail "hp") => `(tactic| with_reducible first | assumption | apply upd_same | (apply upd_old; rotate_left; assumption; fail "hp") | (apply upd_oth; rotate_left; fail "ne"; fail "hp"))
local macro_rules | `(tactic| fail "sl") => `(tactic| with_reducible first | assumption | (apply SqL.of; fail "hp"))
local macro_rules | `(tactic| fail "st") => `(tactic| with_reducible first | assumption | (apply SqT.of; fail "hp"))
local macro_rules | `(tactic| fail "tx") => `(tactic| with_reducible first | assumption | (apply Txt.c_Reader; assumption) | (apply Txt.n_Reader_head; assumption) | (apply Txt.n_Reader_read_lines; assumption) | (apply Txt.n_Reader_read_tasks; assumption))
local macro_rules | `(tactic| fail "lk") => `(tactic| with_reducible first | assumption | apply lk_LF_rules | apply lk_LF_cards | apply lk_LF_rows | apply lk_LF_time | apply lk_CF_line | apply lk_CF_quantum | apply lk_CF_share | apply lk_CF_is_ready | apply lk_CF_spent | (apply lk_LF_no; decide +kernel; decide +kernel; decide +kernel; decide +kernel))
local macro_rules | `(tactic| fail "at") => `(tactic| with_reducible first | assumption | apply mc_0 | apply mc_1 | apply mc_2 | apply mc_3 | apply mc_4 | apply at_0 | apply at_1 | apply at_2 | apply at_3 | apply at_4 | (apply atI_nat; assumption) | (apply at_z; assumption))
local macro_rules | `(tactic| fail "go") => `(tactic| repeat (first
  | apply rd_step
  | with_reducible (first
    | (apply r_kFld; fail "hp"; fail "tx"; fail "tx"; fail "lk")
    | (apply r_ixL; fail "sl"; fail "at") | (apply r_ixT; fail "st"; fail "at")
    | (apply r_kMeth; fail "hp"; fail "lk") | (apply r_kBML; fail "sl")
    | (apply r_lenL; fail "sl") | (apply r_lenT; fail "st") | (apply r_lenD; fail "hp")
    | (apply r_kDGetI; fail "hp"; (first | assumption | rfl)) | (apply r_kDGetS; fail "hp"; (first | assumption | apply mv_rules | apply mv_rows | apply mv_cards | apply mv_now)) | (apply r_kDInI; fail "hp") | (apply r_kDNotInI; fail "hp")
    | (apply r_kAugF; fail "hp"; fail "tx"; fail "tx"; fail "lk")
    | (apply r_isi_tuple_tuple; fail "st") | (apply r_isi_list_tuple; fail "sl") | (apply r_isi_list_list; fail "sl") | (apply r_isi_tuple_list; fail "st")
    | (apply r_kUnT; fail "st"; with_unfolding_all rfl) | (apply r_kIL; fail "sl") | (apply r_kIT; fail "st") | (apply r_kIE; fail "st") )))
local macro_rules | `(tactic| fail "eg") => `(tactic| repeat (first
  | apply stp
  | (refine e_rul0 (fun _ => ?_))

  | (refine e_tup0 (fun _ => ?_)) ))
local macro_rules | `(tactic| fail "egs") => `(tactic| (try (with_reducible refine e_seq ?_)) <;> repeat (first
  | apply stp
  | (with_reducible refine e_seq ?_)
  | (refine e_rul0 (fun _ => ?_))

  | (refine e_tup0 (fun _ => ?_)) ))
instance rd_callN {n m : Nat} {sp : Sp} {g : List V → List V → List V} {E : XK} {t tk : TA} {σ : St} {H : Hp} {Q : VK} : Qn.Rd (tCallN n m sp g E t tk σ H Q) (t σ H fun vs H1 => tk σ H1 fun zs H2 => vs.length = n ∧ zs.length = m ∧ sp (g vs zs) H2 Q E) := ⟨id⟩
/-- runs, known; tasks, known -/
abbrev RunK (fs : List Addr) (found : List (Int × Int × Int × Int)) : Ty := Kn (RunF fs found) RunF.mono
abbrev TskK (qs : List Addr) (ts : List (Int × List Int)) : Ty := Kn (TskF qs ts) TskF.mono
section
variable {P : Program} {w : World} {K : PySem.W.Frag} {mg : Str → Option Value} {base : Heap} {a : Adr}
end
end Qn

/-! U10: leap, leaped. -/
namespace Qn
open PySem L2
local macro_rules | `(tactic| fail "ne") => `(tactic| first | assumption | (apply Ne.symm; assumption) | (apply ne_of_none; assumption; assumption) | (apply Ne.symm; apply ne_of_none; assumption; assumption) | (apply ne_of; assumption; assumption; (intro z; cases z)))
local macro_rules | `(tactic| fail "hp") => `(tactic| with_reducible first | assumption | apply upd_same | (apply upd_old; rotate_left; assumption; fail "hp") | (apply upd_oth; rotate_left; fail "ne"; fail "hp"))
local macro_rules | `(tactic| fail "sl") => `(tactic| with_reducible first | assumption | (apply SqL.of; fail "hp"))
local macro_rules | `(tactic| fail "st") => `(tactic| with_reducible first | assumption | (apply SqT.of; fail "hp"))
local macro_rules | `(tactic| fail "tx") => `(tactic| with_reducible first | assumption | (apply Txt.c_Reader; assumption) | (apply Txt.n_Reader_head; assumption) | (apply Txt.n_Reader_read_lines; assumption) | (apply Txt.n_Reader_read_tasks; assumption))
local macro_rules | `(tactic| fail "lk") => `(tactic| with_reducible first | assumption | apply lk_LF_rules | apply lk_LF_cards | apply lk_LF_rows | apply lk_LF_time | apply lk_CF_line | apply lk_CF_quantum | apply lk_CF_share | apply lk_CF_is_ready | apply lk_CF_spent | (apply lk_LF_no; decide +kernel; decide +kernel; decide +kernel; decide +kernel))
local macro_rules | `(tactic| fail "at") => `(tactic| with_reducible first | assumption | apply mc_0 | apply mc_1 | apply mc_2 | apply mc_3 | apply mc_4 | apply at_0 | apply at_1 | apply at_2 | apply at_3 | apply at_4 | (apply atI_nat; assumption) | (apply at_z; assumption))
local macro_rules | `(tactic| fail "go") => `(tactic| repeat (first
  | apply rd_step
  | with_reducible (first
    | (apply r_kFld; fail "hp"; fail "tx"; fail "tx"; fail "lk")
    | (apply r_ixL; fail "sl"; fail "at") | (apply r_ixT; fail "st"; fail "at")
    | (apply r_kMeth; fail "hp"; fail "lk") | (apply r_kBML; fail "sl")
    | (apply r_lenL; fail "sl") | (apply r_lenT; fail "st") | (apply r_lenD; fail "hp")
    | (apply r_kDGetI; fail "hp"; (first | assumption | rfl)) | (apply r_kDGetS; fail "hp"; (first | assumption | apply mv_rules | apply mv_rows | apply mv_cards | apply mv_now)) | (apply r_kDInI; fail "hp") | (apply r_kDNotInI; fail "hp")
    | (apply r_kAugF; fail "hp"; fail "tx"; fail "tx"; fail "lk")
    | (apply r_isi_tuple_tuple; fail "st") | (apply r_isi_list_tuple; fail "sl") | (apply r_isi_list_list; fail "sl") | (apply r_isi_tuple_list; fail "st")
    | (apply r_kUnT; fail "st"; with_unfolding_all rfl) | (apply r_kIL; fail "sl") | (apply r_kIT; fail "st") | (apply r_kIE; fail "st") )))
local macro_rules | `(tactic| fail "eg") => `(tactic| repeat (first
  | apply stp
  | (refine e_rul0 (fun _ => ?_))

  | (refine e_tup0 (fun _ => ?_)) ))
local macro_rules | `(tactic| fail "egs") => `(tactic| (try (with_reducible refine e_seq ?_)) <;> repeat (first
  | apply stp
  | (with_reducible refine e_seq ?_)
  | (refine e_rul0 (fun _ => ?_))

  | (refine e_tup0 (fun _ => ?_)) ))
def bstL (R : Rul) (now : Int) : List Int := match R.boost with
  | none => []
  | some b => [now - now % b + b]
theorem bstL_len {R : Rul} {now : Int} : (bstL R now).length ≤ 1 := by
  unfold bstL
  cases R.boost <;> simp
theorem bstL_none {R : Rul} {now : Int} (h : R.boost = none) : bstL R now = [] := by unfold bstL; rw [h]
theorem bstL_some {R : Rul} {now b : Int} (h : R.boost = some b) : bstL R now = [now - now % b + b] := by unfold bstL; rw [h]
theorem ip_ext {X : Cx} : PIp X .Add rExt2 := iop_ext
theorem min_foldl {xs : List Int} {a m : Int} (h1 : m ∈ a :: xs) (h2 : ∀ y, y ∈ a :: xs → m ≤ y) : m = (a :: xs).foldl min a := by
  obtain ⟨g1, g2, g3⟩ := foldl_min (xs := a :: xs) (a := a)
  have := g2 m h1
  have := g3 m (h2 a List.mem_cons_self) h2
  omega
theorem filterMap_gt {xs : List Int} {now : Int} : xs.filterMap (fun m => if now < m then some (V.int m) else none) = (xs.filter fun m => decide (now < m)).map V.int := by
  induction xs with
  | nil => rfl
  | cons x r ih => by_cases h : now < x <;> simp [h, ih]
section
variable {P : Program} {w : World} {K : PySem.W.Frag} {mg : Str → Option Value} {base : Heap} {a : Adr}
theorem e_ext2 {Pl F : List As} {p q : Addr} {xs ys : List V} {Q : VK} [t : Take Pl (.ref p) (LstX xs) F] [s2 : Sees Pl q (.lst ys)] (hz : xs.length + ys.length ≤ 100000) (k : Ent (At (.ref p) (LstX (xs ++ ys)) :: F) (fun H => Q (.ref p) H)) : Ent Pl (fun H => rExt2 (.ref p) (.ref q) H Q) := fun H s => by
  have s' := s.imp t.tk
  exact ⟨p, q, xs, ys, rfl, rfl, Sat.sees (F := F) s', s2.sees H s, Nat.le_trans hz (by decide), k _ (s'.set _ fun _ e => by cases e)⟩
end
end Qn

/-! U11: played. -/
namespace Qn
open PySem L2
local macro_rules | `(tactic| fail "ne") => `(tactic| first | assumption | (apply Ne.symm; assumption) | (apply ne_of_none; assumption; assumption) | (apply Ne.symm; apply ne_of_none; assumption; assumption) | (apply ne_of; assumption; assumption; (intro z; cases z)))
local macro_rules | `(tactic| fail "hp") => `(tactic| with_reducible first | assumption | apply upd_same | (apply upd_old; rotate_left; assumption; fail "hp") | (apply upd_oth; rotate_left; fail "ne"; fail "hp"))
local macro_rules | `(tactic| fail "sl") => `(tactic| with_reducible first | assumption | (apply SqL.of; fail "hp"))
local macro_rules | `(tactic| fail "st") => `(tactic| with_reducible first | assumption | (apply SqT.of; fail "hp"))
local macro_rules | `(tactic| fail "tx") => `(tactic| with_reducible first | assumption | (apply Txt.c_Reader; assumption) | (apply Txt.n_Reader_head; assumption) | (apply Txt.n_Reader_read_lines; assumption) | (apply Txt.n_Reader_read_tasks; assumption))
local macro_rules | `(tactic| fail "lk") => `(tactic| with_reducible first | assumption | apply lk_LF_rules | apply lk_LF_cards | apply lk_LF_rows | apply lk_LF_time | apply lk_CF_line | apply lk_CF_quantum | apply lk_CF_share | apply lk_CF_is_ready | apply lk_CF_spent | (apply lk_LF_no; decide +kernel; decide +kernel; decide +kernel; decide +kernel))
local macro_rules | `(tactic| fail "at") => `(tactic| with_reducible first | assumption | apply mc_0 | apply mc_1 | apply mc_2 | apply mc_3 | apply mc_4 | apply at_0 | apply at_1 | apply at_2 | apply at_3 | apply at_4 | (apply atI_nat; assumption) | (apply at_z; assumption))
local macro_rules | `(tactic| fail "go") => `(tactic| repeat (first
  | apply rd_step
  | with_reducible (first
    | (apply r_kFld; fail "hp"; fail "tx"; fail "tx"; fail "lk")
    | (apply r_ixL; fail "sl"; fail "at") | (apply r_ixT; fail "st"; fail "at")
    | (apply r_kMeth; fail "hp"; fail "lk") | (apply r_kBML; fail "sl")
    | (apply r_lenL; fail "sl") | (apply r_lenT; fail "st") | (apply r_lenD; fail "hp")
    | (apply r_kDGetI; fail "hp"; (first | assumption | rfl)) | (apply r_kDGetS; fail "hp"; (first | assumption | apply mv_rules | apply mv_rows | apply mv_cards | apply mv_now)) | (apply r_kDInI; fail "hp") | (apply r_kDNotInI; fail "hp")
    | (apply r_kAugF; fail "hp"; fail "tx"; fail "tx"; fail "lk")
    | (apply r_isi_tuple_tuple; fail "st") | (apply r_isi_list_tuple; fail "sl") | (apply r_isi_list_list; fail "sl") | (apply r_isi_tuple_list; fail "st")
    | (apply r_kUnT; fail "st"; with_unfolding_all rfl) | (apply r_kIL; fail "sl") | (apply r_kIT; fail "st") | (apply r_kIE; fail "st") )))
local macro_rules | `(tactic| fail "eg") => `(tactic| repeat (first
  | apply stp
  | (refine e_rul0 (fun _ => ?_))

  | (refine e_tup0 (fun _ => ?_)) ))
local macro_rules | `(tactic| fail "egs") => `(tactic| (try (with_reducible refine e_seq ?_)) <;> repeat (first
  | apply stp
  | (with_reducible refine e_seq ?_)
  | (refine e_rul0 (fun _ => ?_))

  | (refine e_tup0 (fun _ => ?_)) ))
local instance (priority := 2000) stopS_U11 {P : List As} {t1 t2 : TS} {D : Ends} {σ : St} : Stp P (fun H => tSeq t1 t2 D σ H) P (fun H => Sq (tSeq t1 t2 D) σ H) := stop_seq
section
variable {P : Program} {w : World} {K : PySem.W.Frag} {mg : Str → Option Value} {base : Heap} {a : Adr}
instance sp_inT {Pl : List As} {p : Addr} {i : Int} {ns : List Int} {Q : VK} [s : Sees Pl p (.tup (ns.map V.int))] : Stp Pl (fun H => rIn K false (.int i) (.ref p) H Q) Pl (fun H => Q (.bl (decide (i ∈ ns))) H) :=
  ⟨fun k H h => r_in (.inr (SqT.of (s.sees H h))) rfl flat_ints (by rw [inV_ints]; exact k H h)⟩
theorem TskF.snocG {qs : List Addr} {ts : List (Int × List Int)} {k : Hp} {q b : Addr} {m : Int} {bs : List Int} (h : TskF qs ts k) (hl : qs.length = ts.length) (hq : k q = some (.tup [.int m, .ref b])) (hb : k b = some (.tup (bs.map V.int))) : TskF (qs ++ [q]) (ts ++ [(m, bs)]) k := fun i q2 m2 bs2 e1 e2 => by
  by_cases hjl : i < qs.length
  · rw [List.getElem?_append_left hjl] at e1
    rw [List.getElem?_append_left (by omega)] at e2
    exact h i q2 m2 bs2 e1 e2
  · rw [List.getElem?_append_right (by omega)] at e1
    rw [List.getElem?_append_right (by omega)] at e2
    have h1 : i - qs.length = 0 := by have := (List.getElem?_eq_some_iff.mp e1).1; simpa using this
    have h2 : i - ts.length = 0 := by omega
    rw [h1] at e1
    rw [h2] at e2
    cases Option.some.inj e1; cases Option.some.inj e2
    exact ⟨b, hq, hb⟩
/-- how many, None -/
def nV : Option Nat → V
  | none => .non
  | some r => .int (r : Int)
end
end Qn

/-! U12: game. -/
namespace Qn
open PySem L2
local macro_rules | `(tactic| fail "ne") => `(tactic| first | assumption | (apply Ne.symm; assumption) | (apply ne_of_none; assumption; assumption) | (apply Ne.symm; apply ne_of_none; assumption; assumption) | (apply ne_of; assumption; assumption; (intro z; cases z)))
local macro_rules | `(tactic| fail "hp") => `(tactic| with_reducible first | assumption | apply upd_same | (apply upd_old; rotate_left; assumption; fail "hp") | (apply upd_oth; rotate_left; fail "ne"; fail "hp"))
local macro_rules | `(tactic| fail "sl") => `(tactic| with_reducible first | assumption | (apply SqL.of; fail "hp"))
local macro_rules | `(tactic| fail "st") => `(tactic| with_reducible first | assumption | (apply SqT.of; fail "hp"))
local macro_rules | `(tactic| fail "tx") => `(tactic| with_reducible first | assumption | (apply Txt.c_Reader; assumption) | (apply Txt.n_Reader_head; assumption) | (apply Txt.n_Reader_read_lines; assumption) | (apply Txt.n_Reader_read_tasks; assumption))
local macro_rules | `(tactic| fail "lk") => `(tactic| with_reducible first | assumption | apply lk_LF_rules | apply lk_LF_cards | apply lk_LF_rows | apply lk_LF_time | apply lk_CF_line | apply lk_CF_quantum | apply lk_CF_share | apply lk_CF_is_ready | apply lk_CF_spent | (apply lk_LF_no; decide +kernel; decide +kernel; decide +kernel; decide +kernel))
local macro_rules | `(tactic| fail "at") => `(tactic| with_reducible first | assumption | apply mc_0 | apply mc_1 | apply mc_2 | apply mc_3 | apply mc_4 | apply at_0 | apply at_1 | apply at_2 | apply at_3 | apply at_4 | (apply atI_nat; assumption) | (apply at_z; assumption))
local macro_rules | `(tactic| fail "go") => `(tactic| repeat (first
  | apply rd_step
  | with_reducible (first
    | (apply r_kFld; fail "hp"; fail "tx"; fail "tx"; fail "lk")
    | (apply r_ixL; fail "sl"; fail "at") | (apply r_ixT; fail "st"; fail "at")
    | (apply r_kMeth; fail "hp"; fail "lk") | (apply r_kBML; fail "sl")
    | (apply r_lenL; fail "sl") | (apply r_lenT; fail "st") | (apply r_lenD; fail "hp")
    | (apply r_kDGetI; fail "hp"; (first | assumption | rfl)) | (apply r_kDGetS; fail "hp"; (first | assumption | apply mv_rules | apply mv_rows | apply mv_cards | apply mv_now)) | (apply r_kDInI; fail "hp") | (apply r_kDNotInI; fail "hp")
    | (apply r_kAugF; fail "hp"; fail "tx"; fail "tx"; fail "lk")
    | (apply r_isi_tuple_tuple; fail "st") | (apply r_isi_list_tuple; fail "sl") | (apply r_isi_list_list; fail "sl") | (apply r_isi_tuple_list; fail "st")
    | (apply r_kUnT; fail "st"; with_unfolding_all rfl) | (apply r_kIL; fail "sl") | (apply r_kIT; fail "st") | (apply r_kIE; fail "st") )))
local macro_rules | `(tactic| fail "eg") => `(tactic| repeat (first
  | apply stp
  | (refine e_rul0 (fun _ => ?_))

  | (refine e_tup0 (fun _ => ?_)) ))
local macro_rules | `(tactic| fail "egs") => `(tactic| (try (with_reducible refine e_seq ?_)) <;> repeat (first
  | apply stp
  | (with_reducible refine e_seq ?_)
  | (refine e_rul0 (fun _ => ?_))

  | (refine e_tup0 (fun _ => ?_)) ))
local instance (priority := 2000) stopS_U12 {P : List As} {t1 t2 : TS} {D : Ends} {σ : St} : Stp P (fun H => tSeq t1 t2 D σ H) P (fun H => Sq (tSeq t1 t2 D) σ H) := stop_seq
local instance (priority := 2000) stopT_U12 {P : List As} {σ : St} {Q : VK} : Stp P (fun H => tTup0 σ H Q) P (fun H => Tq (tTup0 σ) H Q) := stop_tup0
section
variable {P : Program} {w : World} {K : PySem.W.Frag} {mg : Str → Option Value} {base : Heap} {a : Adr}
/-- moves, known -/
def MvF (qs : List Addr) (ms : List (List Int)) (k : Hp) : Prop := ∀ (i : Nat) (q : Addr) (m : List Int), qs[i]? = some q → ms[i]? = some m → k q = some (.tup (m.map V.int))
theorem MvF.mono {qs : List Addr} {ms : List (List Int)} {k k' : Hp} (s : Same k k') (h : MvF qs ms k) : MvF qs ms k' := fun i q x e1 e2 => s _ _ (h i q x e1 e2)
abbrev MvK (qs : List Addr) (ms : List (List Int)) : Ty := Kn (MvF qs ms) MvF.mono
theorem MvF.app {qs qs' : List Addr} {ms ms' : List (List Int)} {k : Hp} (h : MvF qs ms k) (h' : MvF qs' ms' k) (hl : qs.length = ms.length) : MvF (qs ++ qs') (ms ++ ms') k := fun i q m e1 e2 => by
  by_cases z : i < qs.length
  · rw [List.getElem?_append_left z] at e1
    rw [List.getElem?_append_left (by omega)] at e2
    exact h i q m e1 e2
  · rw [List.getElem?_append_right (by omega)] at e1
    rw [List.getElem?_append_right (by omega), ← hl] at e2
    exact h' _ q m e1 e2
theorem MvF.one {q : Addr} {m : List Int} {k : Hp} (h : k q = some (.tup (m.map V.int))) : MvF [q] [m] k := fun i q' m' e1 e2 => by
  match i, e1, e2 with
  | 0, e1, e2 => cases Option.some.inj e1; cases Option.some.inj e2; exact h
  | i + 1, e1, _ => cases e1
theorem MvF.tl {q : Addr} {qs : List Addr} {m : List Int} {ms : List (List Int)} {k : Hp} (h : MvF (q :: qs) (m :: ms) k) : MvF qs ms k := fun i q' m' e1 e2 => h (i + 1) q' m' e1 e2
def mvD (m : List Int) : PyData := .tuple (m.map .int)
theorem mvs_dp {K : PySem.W.Frag} {H : Hp} : ∀ (qs : List Addr) (ms : List (List Int)), qs.length = ms.length → MvF qs ms H → DpAll K H (qs.map V.ref) (ms.map mvD)
  | [], [], _, _ => .nil
  | q :: qs, c :: cs, hl, h => .cons (.tup (SqT.of (h 0 q c rfl rfl)) (dpAll_map fun i _ => .int i)) (mvs_dp qs cs (by simpa using hl) h.tl)
  | [], _ :: _, hl, _ => by cases hl
  | _ :: _, [], hl, _ => by cases hl
instance has_mvs {Pl F : List As} {qs : List Addr} {ms : List (List Int)} [t : Take Pl (.int 14) (MvK qs ms) F] [hl : Ln qs.length ms.length] : HasDs K Pl (qs.map V.ref) (ms.map mvD) := ⟨fun H s => by
  obtain ⟨k, h, s1, s2, x, q⟩ := s.tell (t := t)
  exact mvs_dp qs ms hl.eq (MvF.mono s1 q)⟩
theorem sh_mvs {ms : List (List Int)} : Sh 2 (.list (ms.map mvD)) := sh_lst (sh_map fun x => sh_tup (n := 0) (sh_map fun _ => sh_int))
theorem eqv_mvs_nil {ms : List (List Int)} : PyData.eqv (.list (ms.map mvD)) (.list []) = decide (ms = []) := by
  cases ms <;> simp [PyData.eqv, PyData.eqvAll]
theorem e_un1 {Pl : List As} {q : Addr} {x : V} {r : List V} {t : TGs} {σ : St} {Q : St → Hp → Prop} [s : Sees Pl q (.lst (x :: r))] (hz : r.length ≤ 2000)
    (k : ∀ p, Ent (At (.ref p) (LstX r) :: Pl) (fun H => t [x, .ref p] σ H Q)) : Ent Pl (fun H => gUnS K 2 1 t (.ref q) σ H Q) := fun H h => by
  refine ⟨q, _, rfl, SqL.of (s.sees H h), by simp, by simp; omega, fun p np => ?_⟩
  have e1 : (x :: r).drop 1 = r := rfl
  have e2 : (x :: r).length + 1 - 2 = r.length := by simp
  rw [e1, e2, List.take_length, List.drop_length]
  exact k p _ (h.new np ⟨p, rfl, upd_same⟩ fun _ e => by cases e)
theorem e_ltIT {Pl : List As} {x y p q : Addr} {i j : Int} {ns ms : List Int} {Q : VK} [s1 : Sees Pl x (.tup [.int i, .ref p])] [s2 : Sees Pl y (.tup [.int j, .ref q])] [s3 : Sees Pl p (.tup (ns.map V.int))] [s4 : Sees Pl q (.tup (ms.map V.int))]
    (k : Ent Pl (fun H => Q (.bl (if i = j then HT.lexLt ns ms else decide (i < j))) H)) : Ent Pl (fun H => rLtIT K (.ref x) (.ref y) H Q) := fun H h =>
  ⟨x, y, p, q, i, j, ns, ms, rfl, rfl, SqT.of (s1.sees H h), SqT.of (s2.sees H h), SqT.of (s3.sees H h), SqT.of (s4.sees H h), (sh_tup (n := 0) (sh_map fun _ => sh_int)).ok (by decide), (sh_tup (n := 0) (sh_map fun _ => sh_int)).ok (by decide), k H h⟩
theorem e_lcR {lo : Int} {tt : TT} {te : TE} {vs : List Nat} {σ σ0 : St} {n : Nat} {g : TG} {Pl : List As} {Q : VK} (hw : wipe σ vs = σ0) (I : Nat → List V → List As → Prop) (h0 : I 0 [] Pl)
    (hs : ∀ D (i : Nat) acc P, i < n → I i acc P → Ent (At (.ref D) (LstX acc) :: P) (fun H => g (.int (lo + (i : Nat))) σ0 H fun σ2 H2 => wipe σ2 vs = σ0 ∧ tt σ2 H2 fun b H3 => kIf b (te σ2 H3 (puC D (I (i + 1)))) (nxC D (I (i + 1)) H3)))
    (hd : ∀ D acc P, I n acc P → Ent (At (.ref D) (LstX acc) :: P) (fun H => Q (.ref D) H)) : Ent Pl (fun H => kLc (Itr lo n) g tt te vs σ Q H) :=
  e_lc (walk_range (lo := lo) (n := n)) hw I h0 (fun _ _ _ _ _ _ _ => trivial) (fun D i acc P hi q x H H' s y => by obtain ⟨rfl, rfl⟩ := y; exact hs D i acc P hi q _ s) hd
theorem ahead_if {r b : Nat} {z m : List Int} : (if (0 : Int) - (r : Int) = 0 - (b : Int) then HT.lexLt z m else decide ((0 : Int) - (r : Int) < 0 - (b : Int))) = ahead r z b m := by
  unfold ahead
  by_cases e : r = b
  · rw [if_pos e, if_pos (by omega)]
  · rw [if_neg e, if_neg (by omega)]
    by_cases h : b < r
    · rw [decide_eq_true h, decide_eq_true (by omega)]
    · rw [decide_eq_false h, decide_eq_false (by omega)]
theorem lastM_at {y : List Int} (h : y ≠ []) : atI (y.map V.int) (-1) = some (V.int (lastM y)) := by
  obtain ⟨w, x, rfl⟩ : ∃ w x, y = w ++ [x] := ⟨y.dropLast, y.getLast h, (List.dropLast_concat_getLast h).symm⟩
  rw [lastM_snoc, List.map_append]
  exact Qn.atI_last
theorem mv_len {n : Nat} {y : List Int} (h : Mv n y) (hn : n ≤ 10) : y.length ≤ 10 := by
  have h1 : y.Nodup := h.up.imp fun z => by omega
  have h2 : (y.map Int.toNat).Nodup := by
    refine (List.pairwise_map).mpr (h.up.imp_of_mem fun ha hb z => ?_)
    have := (h.bd _ ha).1
    have := (h.bd _ hb).1
    omega
  have h3 := List.Nodup.length_le_of_subset h2 (l₂ := List.range n) fun x hx => by
    obtain ⟨u, hu, rfl⟩ := List.mem_map.mp hx
    have := h.bd u hu
    exact List.mem_range.mpr (by omega)
  rw [List.length_map, List.length_range] at h3
  omega
theorem gameF_nil {R : Rul} {S : LSt} {ts : List (Int × List Int)} {x0 : Int} {n : Nat} : ∃ b, gameF R S ts x0 n [] = some b := by
  obtain ⟨z, h, _⟩ := gplay_on (R := R) (me := ts.length) (P := Ply.begin S (ts ++ [(0, [x0])])) (mv := []) (n := 0) (m := n) rfl (fun j _ _ h => by cases h) (Nat.zero_le _)
  exact ⟨z.2, by unfold gameF; rw [h]; rfl⟩
end
end Qn

namespace Qn
open PySem L2
local macro_rules | `(tactic| fail "ne") => `(tactic| first | assumption | (apply Ne.symm; assumption) | (apply ne_of_none; assumption; assumption) | (apply Ne.symm; apply ne_of_none; assumption; assumption) | (apply ne_of; assumption; assumption; (intro z; cases z)))
local macro_rules | `(tactic| fail "hp") => `(tactic| with_reducible first | assumption | apply upd_same | (apply upd_old; rotate_left; assumption; fail "hp") | (apply upd_oth; rotate_left; fail "ne"; fail "hp"))
local macro_rules | `(tactic| fail "sl") => `(tactic| with_reducible first | assumption | (apply SqL.of; fail "hp"))
local macro_rules | `(tactic| fail "st") => `(tactic| with_reducible first | assumption | (apply SqT.of; fail "hp"))
local macro_rules | `(tactic| fail "tx") => `(tactic| with_reducible first | assumption | (apply Txt.c_Reader; assumption) | (apply Txt.n_Reader_head; assumption) | (apply Txt.n_Reader_read_lines; assumption) | (apply Txt.n_Reader_read_tasks; assumption))
local macro_rules | `(tactic| fail "lk") => `(tactic| with_reducible first | assumption | apply lk_LF_rules | apply lk_LF_cards | apply lk_LF_rows | apply lk_LF_time | apply lk_CF_line | apply lk_CF_quantum | apply lk_CF_share | apply lk_CF_is_ready | apply lk_CF_spent | (apply lk_LF_no; decide +kernel; decide +kernel; decide +kernel; decide +kernel))
local macro_rules | `(tactic| fail "at") => `(tactic| with_reducible first | assumption | apply mc_0 | apply mc_1 | apply mc_2 | apply mc_3 | apply mc_4 | apply at_0 | apply at_1 | apply at_2 | apply at_3 | apply at_4 | (apply atI_nat; assumption) | (apply at_z; assumption))
local macro_rules | `(tactic| fail "go") => `(tactic| repeat (first
  | apply rd_step
  | with_reducible (first
    | (apply r_kFld; fail "hp"; fail "tx"; fail "tx"; fail "lk")
    | (apply r_ixL; fail "sl"; fail "at") | (apply r_ixT; fail "st"; fail "at")
    | (apply r_kMeth; fail "hp"; fail "lk") | (apply r_kBML; fail "sl")
    | (apply r_lenL; fail "sl") | (apply r_lenT; fail "st") | (apply r_lenD; fail "hp")
    | (apply r_kDGetI; fail "hp"; (first | assumption | rfl)) | (apply r_kDGetS; fail "hp"; (first | assumption | apply mv_rules | apply mv_rows | apply mv_cards | apply mv_now)) | (apply r_kDInI; fail "hp") | (apply r_kDNotInI; fail "hp")
    | (apply r_kAugF; fail "hp"; fail "tx"; fail "tx"; fail "lk")
    | (apply r_isi_tuple_tuple; fail "st") | (apply r_isi_list_tuple; fail "sl") | (apply r_isi_list_list; fail "sl") | (apply r_isi_tuple_list; fail "st")
    | (apply r_kUnT; fail "st"; with_unfolding_all rfl) | (apply r_kIL; fail "sl") | (apply r_kIT; fail "st") | (apply r_kIE; fail "st") )))
local macro_rules | `(tactic| fail "eg") => `(tactic| repeat (first
  | apply stp
  | (refine e_rul0 (fun _ => ?_))

  | (refine e_tup0 (fun _ => ?_)) ))
local macro_rules | `(tactic| fail "egs") => `(tactic| (try (with_reducible refine e_seq ?_)) <;> repeat (first
  | apply stp
  | (with_reducible refine e_seq ?_)
  | (refine e_rul0 (fun _ => ?_))

  | (refine e_tup0 (fun _ => ?_)) ))
section
variable {P : Program} {w : World} {K : PySem.W.Frag} {mg : Str → Option Value} {base : Heap} {a : Adr}
instance rd_isNi {i : Int} {H : Hp} {Q : VK} : Qn.Rd (rIsN (.int i) .non H Q) (Q (.bl false) H) := ⟨fun k => r_isN k⟩
instance rd_isNb {i : Bool} {H : Hp} {Q : VK} : Qn.Rd (rIsN (.bl i) .non H Q) (Q (.bl false) H) := ⟨fun k => r_isN k⟩
instance rd_isNs {i : Str} {H : Hp} {Q : VK} : Qn.Rd (rIsN (.str i) .non H Q) (Q (.bl false) H) := ⟨fun k => r_isN k⟩
instance rd_isNr {i : Addr} {H : Hp} {Q : VK} : Qn.Rd (rIsN (.ref i) .non H Q) (Q (.bl false) H) := ⟨fun k => r_isN k⟩
instance rd_isNn {H : Hp} {Q : VK} : Qn.Rd (rIsN .non .non H Q) (Q (.bl true) H) := ⟨fun k => r_isN k⟩
/-- small data of a depth -/
def Dt : Nat → PyData → Prop
  | _, .none => True
  | _, .bool _ => True
  | _, .int _ => True
  | _, .str s => PyData.strOk s = true
  | n + 1, .list ds => ds.length ≤ 1000 ∧ ∀ d ∈ ds, Dt n d
  | n + 1, .tuple ds => ds.length ≤ 1000 ∧ ∀ d ∈ ds, Dt n d
  | _, _ => False
instance rd_neB {x y : Bool} {H : Hp} {Q : VK} : Qn.Rd (rNe (.bl x) (.bl y) H Q) (Q (.bl (!decide (x = y))) H) := ⟨fun k => ⟨rfl, by
  have e : decide (V.bl x = V.bl y) = decide (x = y) := by simp
  rw [e]; exact k⟩⟩
/-- data alike: the very same -/
def spA (K : PySem.W.Frag) (n : Nat) : Sp := sp2 fun x y H Q _ => ∃ m d, n = m + 1 ∧ Dt m d ∧ Dp K H x d ∧ Dp K H y d ∧ Q (.bl true) H
theorem dpAll_get {H : Hp} : ∀ {xs : List V} {ds : List PyData}, DpAll K H xs ds → xs.length = ds.length ∧ ∀ (i : Nat) (d : PyData), ds[i]? = some d → ∃ x, xs[i]? = some x ∧ Dp K H x d
  | _, _, .nil => ⟨rfl, fun i d e => by cases e⟩
  | _, _, .cons (v := v) (d := d0) h r => by
    obtain ⟨h1, h2⟩ := dpAll_get r
    refine ⟨by simp [h1], fun i d e => ?_⟩
    cases i with
    | zero => cases e; exact ⟨v, rfl, h⟩
    | succ i => exact h2 i d e
theorem ok_alike (T : Txt K mg a) : ∀ n, Cal P w K mg base CX0 (n + 1) "_law_alike" ["_law_found", "_law_due"] (spA K n) := by
  intro n
  obtain ⟨fd, F, b⟩ := T.f_law_alike
  induction n with
  | zero => exact ⟨a.law_alike, fd, F.ok sc_law_alike (fun vs H Q E h => sp2_len h) (fun cdv A outer s H vs Q E hr h => by obtain ⟨_, _, _, m, d, e, _⟩ := h; cases e), T.g_law_alike, F.kp, b⟩
  | succ n ih =>
    refine ⟨a.law_alike, fd, F.ok sc_law_alike (fun vs H Q E h => sp2_len h) (fun cdv A outer s H vs Q E hr h => ?_), T.g_law_alike, F.kp, b⟩
    refine ⟨_, (pss_cons (ps_if (pt_cmpR op_isN1 (pv 1) pe_non (nomark _))
 (pss_one (ps_ret (pe_cmpR op_isN1 (pv 0) pe_non (nomark _))))
 pss_nil)
 (pss_cons (ps_if (pt_val (pe_callB call_isi (by rfl) T.z_isinstance (by decide +kernel) (pa_cons (pv 1) (pa_cons (q_bty (T := "bool") (by rfl) T.z_bool (by decide +kernel)) pa_nil))))
 (pss_one (ps_ret (pe_and (pe_callB call_isi (by rfl) T.z_isinstance (by decide +kernel) (pa_cons (pv 0) (pa_cons (q_bty (T := "bool") (by rfl) T.z_bool (by decide +kernel)) pa_nil))) (pe_one (pe_cmpR (op_eqD (by exact hr.units)) (pv 0) (pv 1) (nomark _))))))
 pss_nil)
 (pss_cons (ps_if (pt_val (pe_callB call_isi (by rfl) T.z_isinstance (by decide +kernel) (pa_cons (pv 1) (pa_cons (q_bty (T := "int") (by rfl) T.z_int (by decide +kernel)) pa_nil))))
 (pss_one (ps_ret (pe_and (pe_callB call_isi (by rfl) T.z_isinstance (by decide +kernel) (pa_cons (pv 0) (pa_cons (q_bty (T := "int") (by rfl) T.z_int (by decide +kernel)) pa_nil))) (pe_and (pe_not (pe_callB call_isi (by rfl) T.z_isinstance (by decide +kernel) (pa_cons (pv 0) (pa_cons (q_bty (T := "bool") (by rfl) T.z_bool (by decide +kernel)) pa_nil)))) (pe_one (pe_cmpR (op_eqD (by exact hr.units)) (pv 0) (pv 1) (nomark _)))))))
 pss_nil)
 (pss_cons (ps_if (pt_val (pe_callB call_isi (by rfl) T.z_isinstance (by decide +kernel) (pa_cons (pv 1) (pa_cons (q_bty (T := "str") (by rfl) T.z_str (by decide +kernel)) pa_nil))))
 (pss_one (ps_ret (pe_and (pe_callB call_isi (by rfl) T.z_isinstance (by decide +kernel) (pa_cons (pv 0) (pa_cons (q_bty (T := "str") (by rfl) T.z_str (by decide +kernel)) pa_nil))) (pe_one (pe_cmpR (op_eqD (by exact hr.units)) (pv 0) (pv 1) (nomark _))))))
 pss_nil)
 (pss_cons (ps_if (PW.pt (pw_or (pt_cmpR op_ne (pe_callB call_isi (by rfl) T.z_isinstance (by decide +kernel) (pa_cons (pv 1) (pa_cons (q_bty (T := "tuple") (by rfl) T.z_tuple (by decide +kernel)) pa_nil))) (pe_callB call_isi (by rfl) T.z_isinstance (by decide +kernel) (pa_cons (pv 0) (pa_cons (q_bty (T := "tuple") (by rfl) T.z_tuple (by decide +kernel)) pa_nil))) (nomark _)) (pw_or1 (pt_cmpR op_ne (pe_callB call_isi (by rfl) T.z_isinstance (by decide +kernel) (pa_cons (pv 1) (pa_cons (q_bty (T := "list") (by rfl) T.z_list (by decide +kernel)) pa_nil))) (pe_callB call_isi (by rfl) T.z_isinstance (by decide +kernel) (pa_cons (pv 0) (pa_cons (q_bty (T := "list") (by rfl) T.z_list (by decide +kernel)) pa_nil))) (nomark _)))))
 (pss_one (ps_ret pe_bl))
 pss_nil)
 (pss_cons (ps_if (pt_cmpR op_ne (pe_callB qr_len (by rfl) T.z_len (by decide +kernel) (pa_cons (pv 0) pa_nil)) (pe_callB qr_len (by rfl) T.z_len (by decide +kernel) (pa_cons (pv 1) pa_nil)) (nomark _))
 (pss_one (ps_ret pe_bl))
 pss_nil)
 (pss_cons (ps_for PassesOwn.never rfl (pi_range1 rfl T.z_range (pa_cons (pe_callB qr_len (by rfl) T.z_len (by decide +kernel) (pa_cons (pv 1) pa_nil)) pa_nil)) (pg_name (i := 2) sc_law_alike.nd rfl (Or.inl rfl))
 (pss_one (ps_if (pt_not (pt_val (q_call ih (hr.mono (by omega)) pass0 (pa_cons (pe_ix ix_seq (pv 0) (pv 2) (fun _ _ => rfl)) (pa_cons (pe_ix ix_seq (pv 1) (pv 2) (fun _ _ => rfl)) pa_nil)))))
 (pss_one (ps_ret pe_bl))
 pss_nil)))
 (pss_one (ps_ret pe_bl))))))))), ?_⟩
    try dsimp only [cxOf, Cx.nox, Cx.wish]
    obtain ⟨x, y, rfl, h⟩ := h
    rw [show L2.start N_law_alike [x, y] = [some x, some y, none] from rfl]
    obtain ⟨m, d, hm, sh, dx, dy, k⟩ := h
    cases hm
    cases d with
    | none =>
      cases dx; cases dy
      fail "go"
      exact k
    | bool b =>
      cases dx; cases dy
      fail "go"
      refine r_eqD (.bl b) (.bl b) (sh_bool (n := 0).ok (by decide)) (sh_bool (n := 0).ok (by decide)) ?_
      rw [show PyData.eqv (.bool b) (.bool b) = true by simp [PyData.eqv]]
      exact k
    | int b =>
      cases dx; cases dy
      fail "go"
      refine r_eqD (.int b) (.int b) (sh_int (n := 0).ok (by decide)) (sh_int (n := 0).ok (by decide)) ?_
      rw [show PyData.eqv (.int b) (.int b) = true by simp [PyData.eqv]]
      exact k
    | str b =>
      cases dx; cases dy
      have hs : Sh 0 (.str b) := ⟨by
        have h0 : PyData.strOk b = true := by cases n <;> exact sh
        simpa [PyData.canLay0] using h0, by simp [PyData.depth]⟩
      fail "go"
      refine r_eqD (.str b) (.str b) (hs.ok (by decide)) (hs.ok (by decide)) ?_
      rw [show PyData.eqv (.str b) (.str b) = true by simp [PyData.eqv]]
      exact k
    | list ds =>
      cases n with
      | zero => exact sh.elim
      | succ n =>
      obtain ⟨hz, hsub⟩ := sh
      cases dx with
      | lst hx ax =>
      rename_i px xs
      cases dy with
      | lst hy ay =>
      rename_i py ys
      obtain ⟨lx, gx⟩ := dpAll_get ax
      obtain ⟨ly, gy⟩ := dpAll_get ay
      fail "go"
      refine r_isi_list_bool hy ?_
      fail "go"
      refine r_isi_list_int hy ?_
      fail "go"
      refine r_isi_list_str hy ?_
      fail "go"
      refine r_kF rfl ?_
      fail "go"
      refine r_kF rfl ?_
      fail "go"
      rw [lx, ly]
      refine r_kF (by simp) ?_
      fail "go"
      refine r_kIR1 (by omega) ?_
      refine w_for (n := ds.length) (by have := walk_r0 (n := ds.length); rw [show ((ys.length : Nat) : Int).toNat = ds.length by omega]; exact this) (fun i σ H' => H' = H ∧ ∃ v, σ = [some (.ref px), some (.ref py), v]) ⟨rfl, none, rfl⟩ (fun _ _ _ _ _ => trivial) ?_ ?_
      · rintro i v σ H1 H2 hi ⟨rfl, v2, rfl⟩ ⟨rfl, rfl⟩
        obtain ⟨x1, ex, d1⟩ := gx i _ (List.getElem?_eq_getElem hi)
        obtain ⟨y1, ey, d2⟩ := gy i _ (List.getElem?_eq_getElem hi)
        fail "go"
        refine .inl ⟨px, xs, i, x1, rfl, rfl, hx, atI_nat ex, ?_⟩
        fail "go"
        refine .inl ⟨py, ys, i, y1, rfl, rfl, hy, atI_nat ey, ?_⟩
        fail "go"
        refine sp2_mk ?_
        refine ⟨n, ds[i], rfl, hsub _ (List.getElem_mem hi), d1, d2, ?_⟩
        fail "go"
        exact ⟨rfl, _, rfl⟩
      · rintro σ H1 ⟨rfl, v2, rfl⟩
        fail "go"
        exact k
    | tuple ds =>
      cases n with
      | zero => exact sh.elim
      | succ n =>
      obtain ⟨hz, hsub⟩ := sh
      cases dx with
      | tup hx ax =>
      rename_i px xs
      cases dy with
      | tup hy ay =>
      rename_i py ys
      obtain ⟨lx, gx⟩ := dpAll_get ax
      obtain ⟨ly, gy⟩ := dpAll_get ay
      fail "go"
      refine r_isi_tuple_bool hy ?_
      fail "go"
      refine r_isi_tuple_int hy ?_
      fail "go"
      refine r_isi_tuple_str hy ?_
      fail "go"
      refine r_kF rfl ?_
      fail "go"
      refine r_kF rfl ?_
      fail "go"
      rw [lx, ly]
      refine r_kF (by simp) ?_
      fail "go"
      refine r_kIR1 (by omega) ?_
      refine w_for (n := ds.length) (by have := walk_r0 (n := ds.length); rw [show ((ys.length : Nat) : Int).toNat = ds.length by omega]; exact this) (fun i σ H' => H' = H ∧ ∃ v, σ = [some (.ref px), some (.ref py), v]) ⟨rfl, none, rfl⟩ (fun _ _ _ _ _ => trivial) ?_ ?_
      · rintro i v σ H1 H2 hi ⟨rfl, v2, rfl⟩ ⟨rfl, rfl⟩
        obtain ⟨x1, ex, d1⟩ := gx i _ (List.getElem?_eq_getElem hi)
        obtain ⟨y1, ey, d2⟩ := gy i _ (List.getElem?_eq_getElem hi)
        fail "go"
        refine .inr <| .inl ⟨px, xs, i, x1, rfl, rfl, hx, atI_nat ex, ?_⟩
        fail "go"
        refine .inr <| .inl ⟨py, ys, i, y1, rfl, rfl, hy, atI_nat ey, ?_⟩
        fail "go"
        refine sp2_mk ?_
        refine ⟨n, ds[i], rfl, hsub _ (List.getElem_mem hi), d1, d2, ?_⟩
        fail "go"
        exact ⟨rfl, _, rfl⟩
      · rintro σ H1 ⟨rfl, v2, rfl⟩
        fail "go"
        exact k
    | _ => cases dx
end
end Qn

/-! DT: tasks drawn, what is told as data, alike. -/
namespace Qn
open PySem L2
local macro_rules | `(tactic| fail "ne") => `(tactic| first | assumption | (apply Ne.symm; assumption) | (apply ne_of_none; assumption; assumption) | (apply Ne.symm; apply ne_of_none; assumption; assumption) | (apply ne_of; assumption; assumption; (intro z; cases z)))
local macro_rules | `(tactic| fail "hp") => `(tactic| with_reducible first | assumption | apply upd_same | (apply upd_old; rotate_left; assumption; fail "hp") | (apply upd_oth; rotate_left; fail "ne"; fail "hp"))
local macro_rules | `(tactic| fail "sl") => `(tactic| with_reducible first | assumption | (apply SqL.of; fail "hp"))
local macro_rules | `(tactic| fail "st") => `(tactic| with_reducible first | assumption | (apply SqT.of; fail "hp"))
local macro_rules | `(tactic| fail "tx") => `(tactic| with_reducible first | assumption | (apply Txt.c_Reader; assumption) | (apply Txt.n_Reader_head; assumption) | (apply Txt.n_Reader_read_lines; assumption) | (apply Txt.n_Reader_read_tasks; assumption))
local macro_rules | `(tactic| fail "lk") => `(tactic| with_reducible first | assumption | apply lk_LF_rules | apply lk_LF_cards | apply lk_LF_rows | apply lk_LF_time | apply lk_CF_line | apply lk_CF_quantum | apply lk_CF_share | apply lk_CF_is_ready | apply lk_CF_spent | (apply lk_LF_no; decide +kernel; decide +kernel; decide +kernel; decide +kernel))
local macro_rules | `(tactic| fail "at") => `(tactic| with_reducible first | assumption | apply mc_0 | apply mc_1 | apply mc_2 | apply mc_3 | apply mc_4 | apply at_0 | apply at_1 | apply at_2 | apply at_3 | apply at_4 | (apply atI_nat; assumption) | (apply at_z; assumption))
local macro_rules | `(tactic| fail "go") => `(tactic| repeat (first
  | apply rd_step
  | with_reducible (first
    | (apply r_kFld; fail "hp"; fail "tx"; fail "tx"; fail "lk")
    | (apply r_ixL; fail "sl"; fail "at") | (apply r_ixT; fail "st"; fail "at")
    | (apply r_kMeth; fail "hp"; fail "lk") | (apply r_kBML; fail "sl")
    | (apply r_lenL; fail "sl") | (apply r_lenT; fail "st") | (apply r_lenD; fail "hp")
    | (apply r_kDGetI; fail "hp"; (first | assumption | rfl)) | (apply r_kDGetS; fail "hp"; (first | assumption | apply mv_rules | apply mv_rows | apply mv_cards | apply mv_now)) | (apply r_kDInI; fail "hp") | (apply r_kDNotInI; fail "hp")
    | (apply r_kAugF; fail "hp"; fail "tx"; fail "tx"; fail "lk")
    | (apply r_isi_tuple_tuple; fail "st") | (apply r_isi_list_tuple; fail "sl") | (apply r_isi_list_list; fail "sl") | (apply r_isi_tuple_list; fail "st")
    | (apply r_kUnT; fail "st"; with_unfolding_all rfl) | (apply r_kIL; fail "sl") | (apply r_kIT; fail "st") | (apply r_kIE; fail "st") )))
local macro_rules | `(tactic| fail "eg") => `(tactic| repeat (first
  | apply stp
  | (refine e_rul0 (fun _ => ?_))

  | (refine e_tup0 (fun _ => ?_)) ))
local macro_rules | `(tactic| fail "egs") => `(tactic| (try (with_reducible refine e_seq ?_)) <;> repeat (first
  | apply stp
  | (with_reducible refine e_seq ?_)
  | (refine e_rul0 (fun _ => ?_))

  | (refine e_tup0 (fun _ => ?_)) ))
def tskD (x : Int × List Int) : PyData := .tuple [.int x.1, .tuple (x.2.map .int)]
theorem tsks_dp {K : PySem.W.Frag} {H : Hp} : ∀ (qs : List Addr) (ts : List (Int × List Int)), qs.length = ts.length → TskF qs ts H → DpAll K H (qs.map V.ref) (ts.map tskD)
  | [], [], _, _ => .nil
  | q :: qs, x :: r, hl, h => by
    obtain ⟨b, h1, h2⟩ := h 0 q x.1 x.2 rfl rfl
    exact .cons (.tup (SqT.of h1) (.cons (.int _) (.cons (.tup (SqT.of h2) (dpAll_map fun i _ => .int i)) .nil))) (tsks_dp qs r (by simpa using hl) fun i q m bs e1 e2 => h (i + 1) q m bs e1 e2)
  | [], _ :: _, hl, _ => by cases hl
  | _ :: _, [], hl, _ => by cases hl
theorem sh_tsks {ts : List (Int × List Int)} : Sh 3 (.list (ts.map tskD)) := sh_lst (sh_map fun x => sh_tup (n := 1) (sh_cons sh_int (sh_cons (sh_tup (n := 0) (sh_map fun _ => sh_int)) sh_nil)))
def toldD (p : Ply) : PyData := .tuple [.list (p.found.map runD), .list (p.ends.map bD)]
--ALIKE{
theorem dt_told {p : Ply} (h1 : p.found.length ≤ 1000) (h2 : p.ends.length ≤ 1000) : Dt 8 (toldD p) := ⟨by simp, fun d hd => by
  rcases List.mem_cons.mp hd with rfl | hd
  · refine ⟨by rw [List.length_map]; exact h1, fun d hd => ?_⟩
    obtain ⟨x, _, rfl⟩ := List.mem_map.mp hd
    refine ⟨by simp, fun d hd => ?_⟩
    simp only [List.mem_cons, List.not_mem_nil, or_false] at hd
    rcases hd with rfl | rfl | rfl | rfl <;> trivial
  · rw [List.mem_singleton.mp hd]
    refine ⟨by rw [List.length_map]; exact h2, fun d hd => ?_⟩
    obtain ⟨x, _, rfl⟩ := List.mem_map.mp hd
    cases x <;> trivial⟩
--ALIKE}
theorem at3 {x y z r : Int} (h : 0 ≤ r) (h2 : r < 3) : ∃ v, atI [V.int x, V.int y, V.int z] r = some (.int v) ∧ (v = x ∨ v = y ∨ v = z) := by
  rcases (show r = 0 ∨ r = 1 ∨ r = 2 by omega) with rfl | rfl | rfl
  · exact ⟨x, at_0, .inl rfl⟩
  · exact ⟨y, at_1, .inr (.inl rfl)⟩
  · exact ⟨z, at_2, .inr (.inr rfl)⟩
section
variable {P : Program} {w : World} {K : PySem.W.Frag} {mg : Str → Option Value} {base : Heap} {a : Adr}
def sp_law_tasks (K : PySem.W.Frag) (a : Adr) : Sp := sp2 fun x y H Q _ => ∃ (p : Addr) (m : Int) (F : List As), x = .ref p ∧ y = .int m ∧ 0 ≤ m ∧ m ≤ 12 ∧ Sat (At (.ref p) BoxX :: F) H ∧
  ∀ (D : Addr) (qs : List Addr) (ts : List (Int × List Int)), qs.length = ts.length → ts.length ≤ m → TasksOk ts → Ent (At (.ref D) (LstX (qs.map V.ref)) :: At (.int 5) (TskK qs ts) :: At (.ref p) BoxX :: F) (fun H' => Q (.ref D) H')
theorem ok_law_tasks (T : Txt K mg a) : Cal P w K mg base CX0 2 "_law_tasks" ["_law_box", "_law_most"] (sp_law_tasks K a) := by
  obtain ⟨fd, F, b⟩ := T.f_law_tasks
  refine ⟨a.law_tasks, fd, F.ok sc_law_tasks (fun vs H Q E h => sp2_len h) (fun cdv A outer s H vs Q E hr h => ?_), T.g_law_tasks, F.kp, b⟩
  refine ⟨_, (pss_cons (ps_set (i := 2) sc_law_tasks.nd rfl (Or.inl rfl) (pe_lst pa_nil))
 (pss_cons (ps_for PassesOwn.never rfl (pi_range1 rfl T.z_range (pa_cons (q_call (ok_law_take T) (hr.mono (by decide)) pass0 (pa_cons (pv 0) (pa_cons (pe_op qo_add (pv 1) pe_int) pa_nil))) pa_nil)) (pg_name (i := 3) sc_law_tasks.nd rfl (Or.inl rfl))
 (pss_cons (ps_set (i := 4) sc_law_tasks.nd rfl (Or.inl rfl) (pe_lst pa_nil))
 (pss_cons (ps_for PassesOwn.never rfl (pi_range1 rfl T.z_range (pa_cons (pe_op qo_add (pe_op qo_mul pe_int (q_call (ok_law_take T) (hr.mono (by decide)) pass0 (pa_cons (pv 0) (pa_cons pe_int pa_nil)))) pe_int) pa_nil)) (pg_name (i := 5) sc_law_tasks.nd rfl (Or.inl rfl))
 (pss_one (ps_expr (pe_bm PySem.F.plainAttrs_list PySem.F.slot_list_append PySem.F.type_list_append mt_append (pv 4) (pa_cons (pe_op qo_add pe_int (q_call (ok_law_take T) (hr.mono (by decide)) pass0 (pa_cons (pv 0) (pa_cons (pe_ix ix_list (pe_lst (pa_cons pe_int (pa_cons pe_int (pa_cons pe_int pa_nil)))) (q_call (ok_law_take T) (hr.mono (by decide)) pass0 (pa_cons (pv 0) (pa_cons pe_int pa_nil))) (fun _ _ => rfl)) pa_nil)))) pa_nil)))))
 (pss_one (ps_expr (pe_bm PySem.F.plainAttrs_list PySem.F.slot_list_append PySem.F.type_list_append mt_append (pv 2) (pa_cons (pe_tup (pa_cons (q_call (ok_law_take T) (hr.mono (by decide)) pass0 (pa_cons (pv 0) (pa_cons (pe_ix ix_list (pe_lst (pa_cons pe_int (pa_cons pe_int (pa_cons pe_int pa_nil)))) (q_call (ok_law_take T) (hr.mono (by decide)) pass0 (pa_cons (pv 0) (pa_cons pe_int pa_nil))) (fun _ _ => rfl)) pa_nil))) (pa_cons (pe_callTy qr_tuple (by rfl) T.z_tuple (by decide +kernel) (pa_cons (pv 4) pa_nil)) pa_nil))) pa_nil)))))))
 (pss_one (ps_ret (pv 2))))), ?_⟩
  try dsimp only [cxOf, Cx.nox, Cx.wish, List.map_cons, List.map_nil]
  obtain ⟨x, y, rfl, h⟩ := h
  rw [show L2.start N_law_tasks [x, y] = [some x, some y, none, none, none, none] from rfl]
  obtain ⟨p, m, F, rfl, rfl, m0, m1, s, k⟩ := h
  refine Ent.at s ?_
  clear s
  fail "eg"
  refine e_lst (by simp) fun D => ?_
  rw [show LstX [] = LstX (([] : List Addr).map V.ref) from rfl]
  refine e_kn (.int 5) (TskF [] []) TskF.mono (fun k h s i q m bs e1 e2 => by cases e1) ?_
  fail "eg"
  refine e_take (by omega) (by omega) fun n n0 n1 => ?_
  fail "eg"
  refine e_range1 (by omega) ?_
  refine e_forR0 (n := n.toNat) (fun j σ P' => ∃ (qs : List Addr) (ts : List (Int × List Int)) (v3 v4 v5 : Option V), σ = [some (.ref p), some (.int m), some (.ref D), v3, v4, v5] ∧ qs.length = j ∧ ts.length = j ∧ (∀ x ∈ ts, 0 ≤ x.1 ∧ x.1 ≤ 400 ∧ BurOk x.2) ∧
    P' = At (.ref p) BoxX :: At (.ref D) (LstX (qs.map V.ref)) :: At (.int 5) (TskK qs ts) :: F) ⟨[], [], _, _, _, rfl, rfl, rfl, (fun x hx => by cases hx), rfl⟩ ?_ ?_
  · rintro j σ P' hj ⟨qs, ts, v3, v4, v5, rfl, hq, ht, tok, rfl⟩
    fail "eg"
    refine e_lst (by simp) fun B => ?_
    rw [show LstX [] = LstX (([] : List Int).map V.int) from rfl]
    fail "eg"
    refine e_take (by omega) (by omega) fun r r0 r1 => ?_
    fail "eg"
    refine e_mul (small_mul (by omega) (by omega)) ?_
    fail "eg"
    refine e_range1 (by omega) ?_
    refine e_forR0 (n := (2 * r + 1).toNat) (fun i σ P' => ∃ (bs : List Int) (v5 : Option V), σ = [some (.ref p), some (.int m), some (.ref D), some (.int (j : Nat)), some (.ref B), v5] ∧ bs.length = i ∧ (∀ x ∈ bs, 1 ≤ x ∧ x ≤ 40) ∧
      P' = At (.ref p) BoxX :: At (.ref B) (LstX (bs.map V.int)) :: At (.ref D) (LstX (qs.map V.ref)) :: At (.int 5) (TskK qs ts) :: F) ⟨[], _, rfl, rfl, (fun x hx => by cases hx), rfl⟩ ?_ ?_
    · rintro i σ P' hi ⟨bs, v5, rfl, hbl, hb, rfl⟩
      fail "eg"
      refine e_lst (by simp) fun B2 => ?_
      fail "eg"
      refine e_take (by omega) (by omega) fun r2 r20 r21 => ?_
      obtain ⟨v, hv, hv2⟩ := at3 (x := 4) (y := 12) (z := 40) r20 r21
      refine e_ixL hv ?_
      fail "eg"
      refine e_take (by omega) (by omega) fun r3 r30 r31 => ?_
      fail "eg"
      refine e_append (by rw [List.length_map]; omega) ?_
      rw [show bs.map V.int ++ [V.int (1 + r3)] = (bs ++ [1 + r3]).map V.int by rw [List.map_append]; rfl]
      fail "eg"
      refine e_nx ?_
      exact ⟨_, ⟨bs ++ [1 + r3], _, rfl, by simp [hbl], fun x hx => by
        rcases List.mem_append.mp hx with h | h
        · exact hb x h
        · rw [List.mem_singleton.mp h]; omega, rfl⟩, inferInstance⟩
    · rintro σ P' ⟨bs, v5, rfl, hbl, hb, rfl⟩
      fail "eg"
      refine e_lst (by simp) fun B2 => ?_
      fail "eg"
      refine e_take (by omega) (by omega) fun r2 r20 r21 => ?_
      obtain ⟨v, hv, hv2⟩ := at3 (x := 5) (y := 60) (z := 300) r20 r21
      refine e_ixL hv ?_
      fail "eg"
      refine e_take (by omega) (by omega) fun r3 r30 r31 => ?_
      fail "eg"
      refine e_tuple fun b => ?_
      fail "eg"
      refine e_tup (by simp) fun q => ?_
      refine e_kn (.int 5) (TskF (qs ++ [q]) (ts ++ [(r3, bs)])) TskF.mono (fun k h s => ?_) ?_
      · intro i q2 m2 bs2 e1 e2
        by_cases hjl : i < qs.length
        · rw [List.getElem?_append_left hjl] at e1
          rw [List.getElem?_append_left (by omega)] at e2
          exact kn_of (φ := TskF qs ts) (m := TskF.mono) (v := .int 5) inferInstance s i q2 m2 bs2 e1 e2
        · rw [List.getElem?_append_right (by omega)] at e1
          rw [List.getElem?_append_right (by omega)] at e2
          have h1 : i - qs.length = 0 := by have := (List.getElem?_eq_some_iff.mp e1).1; simpa using this
          have h2 : i - ts.length = 0 := by omega
          rw [h1] at e1
          rw [h2] at e2
          cases Option.some.inj e1; cases Option.some.inj e2
          exact ⟨b, kl_of (q := q) s, kl_of (q := b) s⟩
      fail "eg"
      refine e_append (by rw [List.length_map]; omega) ?_
      rw [show qs.map V.ref ++ [V.ref q] = (qs ++ [q]).map V.ref by rw [List.map_append]; rfl]
      fail "eg"
      refine e_nx ?_
      exact ⟨_, ⟨qs ++ [q], ts ++ [(r3, bs)], _, _, _, rfl, by simp [hq], by simp [ht], fun x hx => by
        rcases List.mem_append.mp hx with h | h
        · exact tok x h
        · rw [List.mem_singleton.mp h]
          exact ⟨by omega, by omega, by show bs.length % 2 = 1; omega, by show bs.length ≤ 9; omega, hb⟩, rfl⟩, inferInstance⟩
  · rintro σ P' ⟨qs, ts, v3, v4, v5, rfl, hq, ht, tok, rfl⟩
    fail "eg"
    exact (k D qs ts (by omega) (by omega) ⟨by omega, tok⟩).to
theorem e_ltasks {Pl F : List As} {p : Addr} {m : Int} {Q : VK} {E : XK} [tk : Take Pl (.ref p) BoxX F] (m0 : 0 ≤ m ∧ m ≤ 12)
    (k : ∀ (D : Addr) (qs : List Addr) (ts : List (Int × List Int)), qs.length = ts.length → ts.length ≤ m → TasksOk ts → Ent (At (.ref D) (LstX (qs.map V.ref)) :: At (.int 5) (TskK qs ts) :: At (.ref p) BoxX :: F) (fun H' => Q (.ref D) H')) :
    Ent Pl (fun H => sp_law_tasks K a [.ref p, .int m] H Q E) := fun H s => sp2_mk ⟨p, m, F, rfl, rfl, m0.1, m0.2, s.imp tk.tk, k⟩
instance has_tsks {Pl F : List As} {qs : List Addr} {ts : List (Int × List Int)} [t : Take Pl (.int 5) (TskK qs ts) F] [hl : Ln qs.length ts.length] : HasDs K Pl (qs.map V.ref) (ts.map tskD) := ⟨fun H s => by
  obtain ⟨k, h, s1, s2, x, q⟩ := s.tell (t := t)
  exact tsks_dp qs ts hl.eq (TskF.mono s1 q)⟩
instance has_runs4 {Pl F : List As} {fs : List Addr} {found : List (Int × Int × Int × Int)} [t : Take Pl (.int 4) (RunK fs found) F] [hl : Ln fs.length found.length] : HasDs K Pl (fs.map V.ref) (found.map runD) := ⟨fun H s => by
  obtain ⟨k, h, s1, s2, x, q⟩ := s.tell (t := t)
  exact runs_dp (fs := fs) (found := found) fs found hl.eq (RunF.mono s1 q)⟩
instance has_bVs {Pl : List As} {es : List (Option Int)} : HasDs K Pl (es.map bV) (es.map bD) := ⟨fun H s => dpAll_map fun o _ => by
  cases o with
  | none => exact .non
  | some i => exact .int i⟩
--ALIKE{
def sp_law_alike (K : PySem.W.Frag) (a : Adr) : Sp := spA K 9
theorem ok_law_alike (T : Txt K mg a) : Cal P w K mg base CX0 10 "_law_alike" ["_law_found", "_law_due"] (sp_law_alike K a) := ok_alike T 9
theorem e_alike {Pl : List As} {x y : V} {Q : VK} {E : XK} (d : PyData) [h1 : HasD K Pl x d] [h2 : HasD K Pl y d] (h : Dt 8 d) (k : Ent Pl (fun H => Q (.bl true) H)) : Ent Pl (fun H => sp_law_alike K a [x, y] H Q E) := fun H s => ⟨x, y, rfl, 8, d, rfl, h, h1.has H s, h2.has H s, k H s⟩
--ALIKE}
end
end Qn

/-! DR: runs told moment by moment. -/
namespace Qn
open PySem L2
local macro_rules | `(tactic| fail "ne") => `(tactic| first | assumption | (apply Ne.symm; assumption) | (apply ne_of_none; assumption; assumption) | (apply Ne.symm; apply ne_of_none; assumption; assumption) | (apply ne_of; assumption; assumption; (intro z; cases z)))
local macro_rules | `(tactic| fail "hp") => `(tactic| with_reducible first | assumption | apply upd_same | (apply upd_old; rotate_left; assumption; fail "hp") | (apply upd_oth; rotate_left; fail "ne"; fail "hp"))
local macro_rules | `(tactic| fail "sl") => `(tactic| with_reducible first | assumption | (apply SqL.of; fail "hp"))
local macro_rules | `(tactic| fail "st") => `(tactic| with_reducible first | assumption | (apply SqT.of; fail "hp"))
local macro_rules | `(tactic| fail "tx") => `(tactic| with_reducible first | assumption | (apply Txt.c_Reader; assumption) | (apply Txt.n_Reader_head; assumption) | (apply Txt.n_Reader_read_lines; assumption) | (apply Txt.n_Reader_read_tasks; assumption))
local macro_rules | `(tactic| fail "lk") => `(tactic| with_reducible first | assumption | apply lk_LF_rules | apply lk_LF_cards | apply lk_LF_rows | apply lk_LF_time | apply lk_CF_line | apply lk_CF_quantum | apply lk_CF_share | apply lk_CF_is_ready | apply lk_CF_spent | (apply lk_LF_no; decide +kernel; decide +kernel; decide +kernel; decide +kernel))
local macro_rules | `(tactic| fail "at") => `(tactic| with_reducible first | assumption | apply mc_0 | apply mc_1 | apply mc_2 | apply mc_3 | apply mc_4 | apply at_0 | apply at_1 | apply at_2 | apply at_3 | apply at_4 | (apply atI_nat; assumption) | (apply at_z; assumption))
local macro_rules | `(tactic| fail "go") => `(tactic| repeat (first
  | apply rd_step
  | with_reducible (first
    | (apply r_kFld; fail "hp"; fail "tx"; fail "tx"; fail "lk")
    | (apply r_ixL; fail "sl"; fail "at") | (apply r_ixT; fail "st"; fail "at")
    | (apply r_kMeth; fail "hp"; fail "lk") | (apply r_kBML; fail "sl")
    | (apply r_lenL; fail "sl") | (apply r_lenT; fail "st") | (apply r_lenD; fail "hp")
    | (apply r_kDGetI; fail "hp"; (first | assumption | rfl)) | (apply r_kDGetS; fail "hp"; (first | assumption | apply mv_rules | apply mv_rows | apply mv_cards | apply mv_now)) | (apply r_kDInI; fail "hp") | (apply r_kDNotInI; fail "hp")
    | (apply r_kAugF; fail "hp"; fail "tx"; fail "tx"; fail "lk")
    | (apply r_isi_tuple_tuple; fail "st") | (apply r_isi_list_tuple; fail "sl") | (apply r_isi_list_list; fail "sl") | (apply r_isi_tuple_list; fail "st")
    | (apply r_kUnT; fail "st"; with_unfolding_all rfl) | (apply r_kIL; fail "sl") | (apply r_kIT; fail "st") | (apply r_kIE; fail "st") )))
local macro_rules | `(tactic| fail "eg") => `(tactic| repeat (first
  | apply stp
  | (refine e_rul0 (fun _ => ?_))

  | (refine e_tup0 (fun _ => ?_)) ))
local macro_rules | `(tactic| fail "egs") => `(tactic| (try (with_reducible refine e_seq ?_)) <;> repeat (first
  | apply stp
  | (with_reducible refine e_seq ?_)
  | (refine e_rul0 (fun _ => ?_))

  | (refine e_tup0 (fun _ => ?_)) ))
def RowK (vs : List V) (rows : List (Option (Int × Int))) (k : Hp) : Prop := vs.length = rows.length ∧ ∀ (i : Nat) (v : V), vs[i]? = some v → (rows[i]? = some none → v = .non) ∧ ∀ t l, rows[i]? = some (some (t, l)) → ∃ q, v = .ref q ∧ k q = some (.tup [.int t, .int l])
theorem RowK.mono {vs : List V} {rows : List (Option (Int × Int))} {k k' : Hp} (s : Same k k') (h : RowK vs rows k) : RowK vs rows k' := ⟨h.1, fun i v e => ⟨(h.2 i v e).1, fun t l e2 => by
  obtain ⟨q, e3, e4⟩ := (h.2 i v e).2 t l e2
  exact ⟨q, e3, s _ _ e4⟩⟩⟩
abbrev RowKK (vs : List V) (rows : List (Option (Int × Int))) : Ty := Kn (RowK vs rows) RowK.mono
theorem RowK.set {vs : List V} {rows : List (Option (Int × Int))} {k : Hp} {q : Addr} {t l : Int} {n : Nat} (h : RowK vs rows k) (hq : k q = some (.tup [.int t, .int l])) : RowK (vs.set n (.ref q)) (rows.set n (some (t, l))) k := ⟨by rw [List.length_set, List.length_set]; exact h.1, fun i v e => by
  by_cases z : n = i
  · subst z
    have hn : n < vs.length := by have := (List.getElem?_eq_some_iff.mp e).1; rwa [List.length_set] at this
    rw [List.getElem?_set_self hn] at e
    rw [List.getElem?_set_self (by rw [← h.1]; exact hn)]
    cases Option.some.inj e
    exact ⟨fun z => (by cases z), fun t l z => by cases Option.some.inj z; exact ⟨q, rfl, hq⟩⟩
  · rw [List.getElem?_set_ne z] at e
    rw [List.getElem?_set_ne z]
    exact h.2 i v e⟩
theorem RowK.snocN {vs : List V} {rows : List (Option (Int × Int))} {k : Hp} (h : RowK vs rows k) : RowK (vs ++ [.non]) (rows ++ [none]) k := ⟨by simp [h.1], fun i v e => by
  by_cases z : i < vs.length
  · rw [List.getElem?_append_left z] at e
    rw [List.getElem?_append_left (by rw [← h.1]; exact z)]
    exact h.2 i v e
  · rw [List.getElem?_append_right (by omega)] at e
    rw [List.getElem?_append_right (by rw [← h.1]; omega), ← h.1]
    have z2 : i - vs.length = 0 := by have := (List.getElem?_eq_some_iff.mp e).1; simp at this; omega
    rw [z2] at e ⊢
    cases Option.some.inj e
    exact ⟨fun _ => rfl, fun t l z => by cases Option.some.inj z⟩⟩
theorem RowK.snoc {vs : List V} {rows : List (Option (Int × Int))} {k : Hp} {q : Addr} {t l : Int} (h : RowK vs rows k) (hq : k q = some (.tup [.int t, .int l])) : RowK (vs ++ [.ref q]) (rows ++ [some (t, l)]) k := ⟨by simp [h.1], fun i v e => by
  by_cases z : i < vs.length
  · rw [List.getElem?_append_left z] at e
    rw [List.getElem?_append_left (by rw [← h.1]; exact z)]
    exact h.2 i v e
  · rw [List.getElem?_append_right (by omega)] at e
    rw [List.getElem?_append_right (by rw [← h.1]; omega), ← h.1]
    have z2 : i - vs.length = 0 := by have := (List.getElem?_eq_some_iff.mp e).1; simp at this; omega
    rw [z2] at e ⊢
    cases Option.some.inj e
    exact ⟨fun z => (by cases Option.some.inj z), fun t l z => by cases Option.some.inj z; exact ⟨q, rfl, hq⟩⟩⟩
def rowD : Option (Int × Int) → PyData
  | none => .none
  | some (t, l) => .tuple [.int t, .int l]
theorem rows_dp {K : PySem.W.Frag} {H : Hp} : ∀ (vs : List V) (rows : List (Option (Int × Int))), RowK vs rows H → DpAll K H vs (rows.map rowD)
  | [], [], _ => .nil
  | v :: vs, o :: r, h => by
    have h0 := h.2 0 v rfl
    have ht : RowK vs r H := ⟨by have := h.1; simpa using this, fun i w e => h.2 (i + 1) w e⟩
    refine .cons ?_ (rows_dp vs r ht)
    cases o with
    | none => rw [h0.1 rfl]; exact .non
    | some tl =>
      obtain ⟨q, e1, e2⟩ := h0.2 tl.1 tl.2 rfl
      rw [e1]
      exact .tup (SqT.of e2) (.cons (.int _) (.cons (.int _) .nil))
  | [], _ :: _, h => by cases h.1
  | _ :: _, [], h => by cases h.1
theorem fillR_len {fs : List Run4} {rows : List (Option (Int × Int))} : (fillR fs rows).length = rows.length := by
  unfold fillR
  induction fs generalizing rows with
  | nil => rfl
  | cons x r ih =>
    rw [List.foldl_cons, ih]
    unfold setR
    generalize List.range (x.2.1 - x.1).toNat = js
    induction js generalizing rows with
    | nil => rfl
    | cons j r ih2 => rw [List.foldl_cons, ih2, List.length_set]
section
variable {P : Program} {w : World} {K : PySem.W.Frag} {mg : Str → Option Value} {base : Heap} {a : Adr}
instance has_rows6 {Pl F : List As} {vs : List V} {rows : List (Option (Int × Int))} [t : Take Pl (.int 6) (RowKK vs rows) F] : HasDs K Pl vs (rows.map rowD) := ⟨fun H s => by
  obtain ⟨k, h, s1, s2, x, q⟩ := s.tell (t := t)
  exact rows_dp vs rows (RowK.mono s1 q)⟩
instance has_rows7 {Pl F : List As} {vs : List V} {rows : List (Option (Int × Int))} [t : Take Pl (.int 7) (RowKK vs rows) F] : HasDs K Pl vs (rows.map rowD) := ⟨fun H s => by
  obtain ⟨k, h, s1, s2, x, q⟩ := s.tell (t := t)
  exact rows_dp vs rows (RowK.mono s1 q)⟩
def sp_law_rows (K : PySem.W.Frag) (a : Adr) : Sp := sp2 fun x y H Q _ => ∃ (f : Addr) (fs : List Addr) (found : List Run4) (L : Nat) (F : List As), x = .ref f ∧ y = .int L ∧ Sat F H ∧ (Sees F f (.lst (fs.map V.ref))) ∧
  (∀ k h, SatL F k h → RunF fs found k) ∧ fs.length = found.length ∧ FOk found L ∧ L ≤ 1000 ∧ ∀ (D : Addr) (vs : List V), vs.length = L → Ent (At (.ref D) (LstX vs) :: At (.int 6) (RowKK vs (fillR found (List.replicate L none))) :: F) (fun H' => Q (.ref D) H')
theorem e_lrows {Pl : List As} {f : Addr} {fs : List Addr} {found : List Run4} {L : Nat} {Q : VK} {E : XK} [se : Sees Pl f (.lst (fs.map V.ref))] (rf : ∀ k h, SatL Pl k h → RunF fs found k) (hl : fs.length = found.length) (fo : FOk found L) (h : L ≤ 1000)
    (k : ∀ (D : Addr) (vs : List V), vs.length = L → Ent (At (.ref D) (LstX vs) :: At (.int 6) (RowKK vs (fillR found (List.replicate L none))) :: Pl) (fun H' => Q (.ref D) H')) : Ent Pl (fun H => sp_law_rows K a [.ref f, .int L] H Q E) := fun H s =>
  sp2_mk ⟨f, fs, found, L, Pl, rfl, rfl, s, se, rf, hl, fo, h, k⟩
end
end Qn

/-! DC: waits_of, counts. -/
namespace Qn
open PySem L2
local macro_rules | `(tactic| fail "ne") => `(tactic| first | assumption | (apply Ne.symm; assumption) | (apply ne_of_none; assumption; assumption) | (apply Ne.symm; apply ne_of_none; assumption; assumption) | (apply ne_of; assumption; assumption; (intro z; cases z)))
local macro_rules | `(tactic| fail "hp") => `(tactic| with_reducible first | assumption | apply upd_same | (apply upd_old; rotate_left; assumption; fail "hp") | (apply upd_oth; rotate_left; fail "ne"; fail "hp"))
local macro_rules | `(tactic| fail "sl") => `(tactic| with_reducible first | assumption | (apply SqL.of; fail "hp"))
local macro_rules | `(tactic| fail "st") => `(tactic| with_reducible first | assumption | (apply SqT.of; fail "hp"))
local macro_rules | `(tactic| fail "tx") => `(tactic| with_reducible first | assumption | (apply Txt.c_Reader; assumption) | (apply Txt.n_Reader_head; assumption) | (apply Txt.n_Reader_read_lines; assumption) | (apply Txt.n_Reader_read_tasks; assumption))
local macro_rules | `(tactic| fail "lk") => `(tactic| with_reducible first | assumption | apply lk_LF_rules | apply lk_LF_cards | apply lk_LF_rows | apply lk_LF_time | apply lk_CF_line | apply lk_CF_quantum | apply lk_CF_share | apply lk_CF_is_ready | apply lk_CF_spent | (apply lk_LF_no; decide +kernel; decide +kernel; decide +kernel; decide +kernel))
local macro_rules | `(tactic| fail "at") => `(tactic| with_reducible first | assumption | apply mc_0 | apply mc_1 | apply mc_2 | apply mc_3 | apply mc_4 | apply at_0 | apply at_1 | apply at_2 | apply at_3 | apply at_4 | (apply atI_nat; assumption) | (apply at_z; assumption))
local macro_rules | `(tactic| fail "go") => `(tactic| repeat (first
  | apply rd_step
  | with_reducible (first
    | (apply r_kFld; fail "hp"; fail "tx"; fail "tx"; fail "lk")
    | (apply r_ixL; fail "sl"; fail "at") | (apply r_ixT; fail "st"; fail "at")
    | (apply r_kMeth; fail "hp"; fail "lk") | (apply r_kBML; fail "sl")
    | (apply r_lenL; fail "sl") | (apply r_lenT; fail "st") | (apply r_lenD; fail "hp")
    | (apply r_kDGetI; fail "hp"; (first | assumption | rfl)) | (apply r_kDGetS; fail "hp"; (first | assumption | apply mv_rules | apply mv_rows | apply mv_cards | apply mv_now)) | (apply r_kDInI; fail "hp") | (apply r_kDNotInI; fail "hp")
    | (apply r_kAugF; fail "hp"; fail "tx"; fail "tx"; fail "lk")
    | (apply r_isi_tuple_tuple; fail "st") | (apply r_isi_list_tuple; fail "sl") | (apply r_isi_list_list; fail "sl") | (apply r_isi_tuple_list; fail "st")
    | (apply r_kUnT; fail "st"; with_unfolding_all rfl) | (apply r_kIL; fail "sl") | (apply r_kIT; fail "st") | (apply r_kIE; fail "st") )))
local macro_rules | `(tactic| fail "eg") => `(tactic| repeat (first
  | apply stp
  | (refine e_rul0 (fun _ => ?_))

  | (refine e_tup0 (fun _ => ?_)) ))
local macro_rules | `(tactic| fail "egs") => `(tactic| (try (with_reducible refine e_seq ?_)) <;> repeat (first
  | apply stp
  | (with_reducible refine e_seq ?_)
  | (refine e_rul0 (fun _ => ?_))

  | (refine e_tup0 (fun _ => ?_)) ))
/-- pairs of numbers, known -/
def PrF (qs : List Addr) (rs : List (Int × Int)) (k : Hp) : Prop := ∀ (i : Nat) (q : Addr) (x : Int × Int), qs[i]? = some q → rs[i]? = some x → k q = some (.tup [.int x.1, .int x.2])
theorem PrF.mono {qs : List Addr} {rs : List (Int × Int)} {k k' : Hp} (s : Same k k') (h : PrF qs rs k) : PrF qs rs k' := fun i q x e1 e2 => s _ _ (h i q x e1 e2)
abbrev PrK (qs : List Addr) (rs : List (Int × Int)) : Ty := Kn (PrF qs rs) PrF.mono
theorem PrF.snoc {qs : List Addr} {rs : List (Int × Int)} {k : Hp} {q : Addr} {x : Int × Int} (h : PrF qs rs k) (hl : qs.length = rs.length) (hq : k q = some (.tup [.int x.1, .int x.2])) : PrF (qs ++ [q]) (rs ++ [x]) k := fun i q2 x2 e1 e2 => by
  by_cases hjl : i < qs.length
  · rw [List.getElem?_append_left hjl] at e1
    rw [List.getElem?_append_left (by omega)] at e2
    exact h i q2 x2 e1 e2
  · rw [List.getElem?_append_right (by omega)] at e1
    rw [List.getElem?_append_right (by omega)] at e2
    have h1 : i - qs.length = 0 := by have := (List.getElem?_eq_some_iff.mp e1).1; simpa using this
    have h2 : i - rs.length = 0 := by omega
    rw [h1] at e1
    rw [h2] at e2
    cases Option.some.inj e1; cases Option.some.inj e2
    exact hq
/-- counts, known -/
def CntF (qs : List Addr) (cs : List (Int × Int × Int)) (k : Hp) : Prop := ∀ (i : Nat) (q : Addr) (x : Int × Int × Int), qs[i]? = some q → cs[i]? = some x → k q = some (.tup [.int x.1, .int x.2.1, .int x.2.2])
theorem CntF.mono {qs : List Addr} {cs : List (Int × Int × Int)} {k k' : Hp} (s : Same k k') (h : CntF qs cs k) : CntF qs cs k' := fun i q x e1 e2 => s _ _ (h i q x e1 e2)
abbrev CntK (qs : List Addr) (cs : List (Int × Int × Int)) : Ty := Kn (CntF qs cs) CntF.mono
theorem CntF.snoc {qs : List Addr} {cs : List (Int × Int × Int)} {k : Hp} {q : Addr} {x : Int × Int × Int} (h : CntF qs cs k) (hl : qs.length = cs.length) (hq : k q = some (.tup [.int x.1, .int x.2.1, .int x.2.2])) : CntF (qs ++ [q]) (cs ++ [x]) k := fun i q2 x2 e1 e2 => by
  by_cases hjl : i < qs.length
  · rw [List.getElem?_append_left hjl] at e1
    rw [List.getElem?_append_left (by omega)] at e2
    exact h i q2 x2 e1 e2
  · rw [List.getElem?_append_right (by omega)] at e1
    rw [List.getElem?_append_right (by omega)] at e2
    have h1 : i - qs.length = 0 := by have := (List.getElem?_eq_some_iff.mp e1).1; simpa using this
    have h2 : i - cs.length = 0 := by omega
    rw [h1] at e1
    rw [h2] at e2
    cases Option.some.inj e1; cases Option.some.inj e2
    exact hq
instance rd_isNi2 {i : Int} {H : Hp} {Q : VK} : Qn.Rd (rIsN (.int i) .non H Q) (Q (.bl false) H) := ⟨fun k => r_isN k⟩
instance rd_isNn2 {H : Hp} {Q : VK} : Qn.Rd (rIsN .non .non H Q) (Q (.bl true) H) := ⟨fun k => r_isN k⟩
theorem WV.at_ {rs : List (Int × Int)} {bs : List Int} {j : Nat} {r : Int × Int} (h : WV rs (bs, [])) (hr : rs[j]? = some r) : ∃ x tl, (wF (rs.take j) bs).1 = x :: tl ∧ 0 < r.2 - r.1 ∧ r.2 - r.1 ≤ x := by
  have gen : ∀ (rs : List (Int × Int)) (st : WSt) (j : Nat), WV rs st → rs[j]? = some r → ∃ x tl, ((rs.take j).foldl wS st).1 = x :: tl ∧ 0 < r.2 - r.1 ∧ r.2 - r.1 ≤ x := by
    intro rs
    induction rs with
    | nil => intro st j _ h2; cases h2
    | cons r0 rs ih =>
      intro st j h1 h2
      cases j with
      | zero => cases Option.some.inj h2; exact h1.1
      | succ j => exact ih _ j h1.2 h2
  exact gen rs _ j h hr
theorem wF_take {rs : List (Int × Int)} {bs : List Int} {j : Nat} {r : Int × Int} (hr : rs[j]? = some r) : wF (rs.take (j + 1)) bs = wS (wF (rs.take j) bs) r := by
  rw [List.take_succ, hr]
  exact wF_snoc
theorem wF_len {rs : List (Int × Int)} {bs : List Int} : (wF rs bs).1.length ≤ bs.length := by
  have gen : ∀ (rs : List (Int × Int)) (st : WSt), (rs.foldl wS st).1.length ≤ st.1.length := by
    intro rs
    induction rs with
    | nil => intro st; exact Nat.le_refl _
    | cons r rs ih =>
      intro st
      rw [List.foldl_cons]
      refine Nat.le_trans (ih _) ?_
      unfold wS
      split
      · rename_i e; rw [e]; exact Nat.le_refl _
      · rename_i e; rw [e]; exact Nat.le_refl _
      · rename_i x w tl e
        rw [e]
        split <;> simp only [List.length_cons] <;> omega
  exact gen rs _
section
variable {P : Program} {w : World} {K : PySem.W.Frag} {mg : Str → Option Value} {base : Heap} {a : Adr}
/-- counts of all tasks -/
def cntL (R : Rul) (ts : List (Int × List Int)) (u : Nat) : List (Int × Int × Int) := ts.zipIdx.map fun x => ((Ply.begin (LSt.begin R) ts).ticks R u).cnt x.1.2 x.1.1 u x.2
theorem cntL_at {R : Rul} {ts : List (Int × List Int)} {u j : Nat} {mo : Int} {bs : List Int} (h : ts[j]? = some (mo, bs)) : (cntL R ts u)[j]? = some (((Ply.begin (LSt.begin R) ts).ticks R u).cnt bs mo u j) := by
  unfold cntL
  rw [List.getElem?_map, List.getElem?_zipIdx, h]
  simp
theorem cntL_len {R : Rul} {ts : List (Int × List Int)} {u : Nat} : (cntL R ts u).length = ts.length := by unfold cntL; simp
end
end Qn

/-! DJ: judged. -/
namespace Qn
open PySem L2
local macro_rules | `(tactic| fail "ne") => `(tactic| first | assumption | (apply Ne.symm; assumption) | (apply ne_of_none; assumption; assumption) | (apply Ne.symm; apply ne_of_none; assumption; assumption) | (apply ne_of; assumption; assumption; (intro z; cases z)))
local macro_rules | `(tactic| fail "hp") => `(tactic| with_reducible first | assumption | apply upd_same | (apply upd_old; rotate_left; assumption; fail "hp") | (apply upd_oth; rotate_left; fail "ne"; fail "hp"))
local macro_rules | `(tactic| fail "sl") => `(tactic| with_reducible first | assumption | (apply SqL.of; fail "hp"))
local macro_rules | `(tactic| fail "st") => `(tactic| with_reducible first | assumption | (apply SqT.of; fail "hp"))
local macro_rules | `(tactic| fail "tx") => `(tactic| with_reducible first | assumption | (apply Txt.c_Reader; assumption) | (apply Txt.n_Reader_head; assumption) | (apply Txt.n_Reader_read_lines; assumption) | (apply Txt.n_Reader_read_tasks; assumption))
local macro_rules | `(tactic| fail "lk") => `(tactic| with_reducible first | assumption | apply lk_LF_rules | apply lk_LF_cards | apply lk_LF_rows | apply lk_LF_time | apply lk_CF_line | apply lk_CF_quantum | apply lk_CF_share | apply lk_CF_is_ready | apply lk_CF_spent | (apply lk_LF_no; decide +kernel; decide +kernel; decide +kernel; decide +kernel))
local macro_rules | `(tactic| fail "at") => `(tactic| with_reducible first | assumption | apply mc_0 | apply mc_1 | apply mc_2 | apply mc_3 | apply mc_4 | apply at_0 | apply at_1 | apply at_2 | apply at_3 | apply at_4 | (apply atI_nat; assumption) | (apply at_z; assumption))
local macro_rules | `(tactic| fail "go") => `(tactic| repeat (first
  | apply rd_step
  | with_reducible (first
    | (apply r_kFld; fail "hp"; fail "tx"; fail "tx"; fail "lk")
    | (apply r_ixL; fail "sl"; fail "at") | (apply r_ixT; fail "st"; fail "at")
    | (apply r_kMeth; fail "hp"; fail "lk") | (apply r_kBML; fail "sl")
    | (apply r_lenL; fail "sl") | (apply r_lenT; fail "st") | (apply r_lenD; fail "hp")
    | (apply r_kDGetI; fail "hp"; (first | assumption | rfl)) | (apply r_kDGetS; fail "hp"; (first | assumption | apply mv_rules | apply mv_rows | apply mv_cards | apply mv_now)) | (apply r_kDInI; fail "hp") | (apply r_kDNotInI; fail "hp")
    | (apply r_kAugF; fail "hp"; fail "tx"; fail "tx"; fail "lk")
    | (apply r_isi_tuple_tuple; fail "st") | (apply r_isi_list_tuple; fail "sl") | (apply r_isi_list_list; fail "sl") | (apply r_isi_tuple_list; fail "st")
    | (apply r_kUnT; fail "st"; with_unfolding_all rfl) | (apply r_kIL; fail "sl") | (apply r_kIT; fail "st") | (apply r_kIE; fail "st") )))
local macro_rules | `(tactic| fail "eg") => `(tactic| repeat (first
  | apply stp
  | (refine e_rul0 (fun _ => ?_))

  | (refine e_tup0 (fun _ => ?_)) ))
local macro_rules | `(tactic| fail "egs") => `(tactic| (try (with_reducible refine e_seq ?_)) <;> repeat (first
  | apply stp
  | (with_reducible refine e_seq ?_)
  | (refine e_rul0 (fun _ => ?_))

  | (refine e_tup0 (fun _ => ?_)) ))
section
variable {α : Type} {P : List As} {K : PySem.W.Frag} {σ σ0 : St} {Q : VK} {p : Addr} {g : TG} {tt : TT} {te : TE} {own : List (Str × Nat)}
theorem e_lcGE (l : List α) (f : α → Option V) {xs : List V} (s : Sees P p (.lst xs)) [hw : Wip σ own σ0] (hl : xs.length = l.length)
    (hs : ∀ D T i x u, xs[i]? = some x → l[i]? = some u → Ent (At (.ref T) (KTup [.int (i : Nat), x]) :: At (.ref D) (LstX ((l.take i).filterMap f)) :: P) (fun H => g (.ref T) σ0 H fun σ2 H2 => wipe σ2 (own.map (·.2)) = σ0 ∧ tt σ2 H2 fun b H3 => kIf b (te σ2 H3 (puC D (IG l f P (i + 1)))) (nxC D (IG l f P (i + 1)) H3)))
    (hd : ∀ D, Ent (At (.ref D) (LstX (l.filterMap f)) :: P) (fun H => Q (.ref D) H)) : Ent P (fun H => kLc (Ite K p) g tt te (own.map (·.2)) σ Q H) := by
  refine e_lc (walk_enum (K := K) (a := p) (xs := xs)) hw.eq (fun i => IG l f P i) ⟨by simp, rfl⟩ (fun i acc P' _ q H h => by rw [q.2] at h; exact SqL.of (s.sees H h)) (fun D i acc P' hi q x H H' sS y => ?_) fun D acc P' q => ?_
  · obtain ⟨rfl, rfl⟩ := q
    obtain ⟨T, u, v, rfl, nT, rfl, e1, e2⟩ := y
    cases Option.some.inj e1
    have hi2 : i < l.length := by have := (List.getElem?_eq_some_iff.mp e2).1; omega
    exact hs D T i v _ e2 (List.getElem?_eq_getElem hi2) _ (sS.newK nT ⟨T, rfl, upd_same⟩)
  · obtain ⟨rfl, rfl⟩ := q
    rw [hl, List.take_length]
    exact hd D
end
theorem eqv_four {u1 u2 u3 u4 v1 v2 v3 v4 : Int} : PyData.eqv (.tuple [.int u1, .int u2, .int u3, .int u4]) (.tuple [.int v1, .int v2, .int v3, .int v4]) = decide ((u1, u2, u3, u4) = (v1, v2, v3, v4)) := by
  simp [PyData.eqv, PyData.eqvAll]
  rfl
def Run4.Ok (x : Run4) (n : Nat) : Prop := (0 ≤ x.1 ∧ x.1 ≤ 400) ∧ (0 ≤ x.2.1 ∧ x.2.1 ≤ 400) ∧ (0 ≤ x.2.2.1 ∧ x.2.2.1 < n) ∧ 0 ≤ x.2.2.2 ∧ x.2.2.2 < 4
section
variable {P : Program} {w : World} {K : PySem.W.Frag} {mg : Str → Option Value} {base : Heap} {a : Adr}
end
end Qn

/-! what is read. -/
namespace Qn
open PySem L2
local macro_rules | `(tactic| fail "ne") => `(tactic| first | assumption | (apply Ne.symm; assumption) | (apply ne_of_none; assumption; assumption) | (apply Ne.symm; apply ne_of_none; assumption; assumption) | (apply ne_of; assumption; assumption; (intro z; cases z)))
local macro_rules | `(tactic| fail "hp") => `(tactic| with_reducible first | assumption | apply upd_same | (apply upd_old; rotate_left; assumption; fail "hp") | (apply upd_oth; rotate_left; fail "ne"; fail "hp"))
local macro_rules | `(tactic| fail "sl") => `(tactic| with_reducible first | assumption | (apply SqL.of; fail "hp"))
local macro_rules | `(tactic| fail "st") => `(tactic| with_reducible first | assumption | (apply SqT.of; fail "hp"))
local macro_rules | `(tactic| fail "tx") => `(tactic| with_reducible first | assumption | (apply Txt.c_Reader; assumption) | (apply Txt.n_Reader_head; assumption) | (apply Txt.n_Reader_read_lines; assumption) | (apply Txt.n_Reader_read_tasks; assumption))
local macro_rules | `(tactic| fail "lk") => `(tactic| with_reducible first | assumption | apply lk_LF_rules | apply lk_LF_cards | apply lk_LF_rows | apply lk_LF_time | apply lk_CF_line | apply lk_CF_quantum | apply lk_CF_share | apply lk_CF_is_ready | apply lk_CF_spent | (apply lk_LF_no; decide +kernel; decide +kernel; decide +kernel; decide +kernel))
local macro_rules | `(tactic| fail "at") => `(tactic| with_reducible first | assumption | apply mc_0 | apply mc_1 | apply mc_2 | apply mc_3 | apply mc_4 | apply at_0 | apply at_1 | apply at_2 | apply at_3 | apply at_4 | (apply atI_nat; assumption) | (apply at_z; assumption))
local macro_rules | `(tactic| fail "go") => `(tactic| repeat (first
  | apply rd_step
  | with_reducible (first
    | (apply r_kFld; fail "hp"; fail "tx"; fail "tx"; fail "lk")
    | (apply r_ixL; fail "sl"; fail "at") | (apply r_ixT; fail "st"; fail "at")
    | (apply r_kMeth; fail "hp"; fail "lk") | (apply r_kBML; fail "sl")
    | (apply r_lenL; fail "sl") | (apply r_lenT; fail "st") | (apply r_lenD; fail "hp")
    | (apply r_kDGetI; fail "hp"; (first | assumption | rfl)) | (apply r_kDGetS; fail "hp"; (first | assumption | apply mv_rules | apply mv_rows | apply mv_cards | apply mv_now)) | (apply r_kDInI; fail "hp") | (apply r_kDNotInI; fail "hp")
    | (apply r_kAugF; fail "hp"; fail "tx"; fail "tx"; fail "lk")
    | (apply r_isi_tuple_tuple; fail "st") | (apply r_isi_list_tuple; fail "sl") | (apply r_isi_list_list; fail "sl") | (apply r_isi_tuple_list; fail "st")
    | (apply r_kUnT; fail "st"; with_unfolding_all rfl) | (apply r_kIL; fail "sl") | (apply r_kIT; fail "st") | (apply r_kIE; fail "st") )))
local macro_rules | `(tactic| fail "eg") => `(tactic| repeat (first
  | apply stp
  | (refine e_rul0 (fun _ => ?_))

  | (refine e_tup0 (fun _ => ?_)) ))
local macro_rules | `(tactic| fail "egs") => `(tactic| (try (with_reducible refine e_seq ?_)) <;> repeat (first
  | apply stp
  | (with_reducible refine e_seq ?_)
  | (refine e_rul0 (fun _ => ?_))

  | (refine e_tup0 (fun _ => ?_)) ))
local instance (priority := 2000) stopS_D23a {P : List As} {t1 t2 : TS} {D : Ends} {σ : St} : Stp P (fun H => tSeq t1 t2 D σ H) P (fun H => Sq (tSeq t1 t2 D) σ H) := stop_seq
section
variable {P : Program} {w : World} {K : PySem.W.Frag} {mg : Str → Option Value} {base : Heap} {a : Adr}
def sp_number_of (K : PySem.W.Frag) (a : Adr) : Sp := sp1 fun x H Q _ => ∃ (n : Nat) (F : List As), x = .str (numS n) ∧ n < 401 ∧ Sat F H ∧ Ent F (fun H' => Q (.int n) H')
theorem ok_number_of (T : Txt K mg a) : Cal P w K mg base CX0 1 "number_of" ["word"] (sp_number_of K a) := by
  obtain ⟨fd, F, b⟩ := T.f_number_of
  refine ⟨a.number_of, fd, F.ok sc_number_of (fun vs H Q E h => sp1_len h) (fun cdv A outer s H vs Q E hr h => ?_), T.g_number_of, F.kp, b⟩
  refine ⟨_, (pss_cons (ps_if (PW.pt (pw_or (pt_not (pt_chain qo_le qo_le pe_int (pe_callB cr_lenS (by rfl) T.z_len (by decide +kernel) (pa_cons (pv 0) pa_nil)) pe_int)) (pw_or1 (pt_not (pt_val (pe_callB (cr_all rfl) (by rfl) T.z_all (by decide +kernel) (pa_cons (pe_lc (own := [("sign", 1)]) (g := (gName 1)) (tt := tYes) (te := (tOp rInS (tVar 1) (tC (V.str "0123456789")))) rfl sc_number_of.nd (pi_str (pv 0)) (blkOk_by (N := N_number_of) (sc := (defScope s_number_of)) (by decide +kernel)) (fun _ _ _ _ _ => (pg_name (i := 1) sc_number_of.nd rfl (Or.inl rfl))) (fun _ _ _ _ _ => pts_nil) (fun _ _ _ _ _ => (pe_cmpR qo_inS (pv 1) (q_cS T.g_FIGURES) rfl))) pa_nil)))))))
 (pss_one (ps_ret pe_non))
 pss_nil)
 (pss_one (ps_ret (pe_ifExp (PW.pt (pw_or (pt_cmpR op_eq (pv 0) pe_str (nomark _)) (pw_or1 (pt_cmpR op_ne (pe_ix ix_str (pv 0) pe_int (fun _ _ => rfl)) pe_str (nomark _))))) (pe_callTy cr_intS (by rfl) T.z_int (by decide +kernel) (pa_cons (pv 0) pa_nil)) pe_non)))), ?_⟩
  try dsimp only [cxOf, Cx.nox, Cx.wish, List.map_cons, List.map_nil]
  obtain ⟨x, rfl, h⟩ := h
  rw [show L2.start N_number_of [x] = [some x, none] from rfl]
  obtain ⟨n, F, rfl, hn, s, k⟩ := h
  refine Ent.at s ?_
  clear s
  have hl := numS_len (n := n) (by omega)
  fail "egs"
  refine e_lenS (by unfold sizeLine; omega) ?_
  fail "egs"
  refine e_TD (by omega) ?_
  fail "egs"
  rw [show (!decide (((numS n).length : Int) ≤ 3)) = false by rw [decide_eq_true (by omega)]; rfl]
  fail "egs"
  refine e_lcS (σ0 := [some (.str (numS n)), none]) (numS n) rfl (fun i acc P' => acc = (List.replicate i true).map V.bl ∧ P' = F) ⟨rfl, rfl⟩ ?_ ?_
  · rintro D i c acc P' hc ⟨rfl, rfl⟩
    fail "egs"
    refine e_and rfl ?_
    fail "egs"
    refine e_inS ?_
    rw [decide_eq_true (numS_dig c (by
      rw [Array.mem_toList_iff]
      exact Array.mem_of_getElem? hc))]
    have hi := (Array.getElem?_eq_some_iff.mp hc).1
    have hls : (numS n).cps.size = (numS n).length := rfl
    exact e_pu (a := D) P' inferInstance (by rw [List.length_map, List.length_replicate]; omega) ⟨by rw [List.replicate_succ', List.map_append]; rfl, rfl⟩
  · rintro D acc P' ⟨rfl, rfl⟩
    fail "egs"
    refine e_all ?_
    rw [show (List.replicate (numS n).cps.size true).all id = true by simp]
    fail "egs"
    refine Ent.to (Q := P') ?_
    refine e_ifD (fun h0 => ?_) (fun h0 => ?_)
    · fail "egs"
      refine e_intS (numS_int (by omega)) (by omega) ?_
      fail "egs"
      exact k.to
    · obtain ⟨c, c1, c2⟩ := numS_at0 hn
      fail "egs"
      refine e_ixS (c := c) (by unfold sizeLine; omega) (atI_nat (j := 0) c1) ?_
      fail "egs"
      rw [show (!decide ((⟨#[c]⟩ : Str) = Str.ofString "0")) = true by
        rcases c2 with z | z
        · exact absurd z h0
        · simpa using z]
      fail "egs"
      refine e_intS (numS_int (by omega)) (by omega) ?_
      fail "egs"
      exact k.to
theorem e_number {Pl : List As} {n : Nat} {Q : VK} {E : XK} (hn : n < 401) (k : Ent Pl (fun H' => Q (.int n) H')) : Ent Pl (fun H => sp_number_of K a [.str (numS n)] H Q E) := fun H s => sp1_mk ⟨n, Pl, rfl, hn, s, k⟩
theorem fm_someT {α : Type} {f : α → V} {l : List α} : l.filterMap (fun x => some (f x)) = l.map f := by
  induction l with
  | nil => rfl
  | cons x r ih => rw [List.map_cons, ← ih]; rfl
theorem inV_non : ∀ {ns : List Int}, inV .non (ns.map V.int) = false
  | [] => rfl
  | n :: r => by
    have ih := inV_non (ns := r)
    show inV .non (V.int n :: r.map V.int) = false
    simpa [inV, show eqV (V.int n) V.non = false from rfl] using ih
theorem e_inNon {Pl : List As} {p : Addr} {ns : List Int} {Q : VK} [s : Sees Pl p (.lst (ns.map V.int))] (k : Ent Pl (fun H => Q (.bl false) H)) : Ent Pl (fun H => rIn K false .non (.ref p) H Q) := fun H h =>
  r_in (.inl (SqL.of (s.sees H h))) rfl (List.all_eq_true.mpr fun x hx => by obtain ⟨i, _, rfl⟩ := List.mem_map.mp hx; rfl) (by
    show Q (.bl (inV .non (ns.map V.int))) H
    rw [inV_non]; exact k H h)
theorem e_inTup {Pl : List As} {p : Addr} {x : V} {xs : List V} {neg b : Bool} {Q : VK} [s : Sees Pl p (.tup xs)] (h1 : flatV x = true) (h2 : xs.all flatV = true) (e : (if neg then !inV x xs else inV x xs) = b) (k : Ent Pl (fun H => Q (.bl b) H)) : Ent Pl (fun H => rIn K neg x (.ref p) H Q) := fun H h =>
  r_in (.inr (SqT.of (s.sees H h))) h1 h2 (by rw [e]; exact k H h)
abbrev RdF (h : V) (l t : Addr) : List (Str × V) := [("head", h), ("read_lines", .ref l), ("read_tasks", .ref t)]
abbrev RdA (a : Adr) (g dx l t : Addr) (h : V) (las tas : List Addr) (ls : List (Int × Int)) (ts : List (Int × List Int)) (F : List As) : List As :=
  At (.ref g) (ObjX a.Reader dx (RdF h l t)) :: At (.ref l) (LstX (las.map V.ref)) :: At (.ref t) (LstX (tas.map V.ref)) :: At (.int 14) (PrK las ls) :: At (.int 15) (TskK tas ts) :: F
def sp_Reader__init (K : PySem.W.Frag) (a : Adr) : Sp := sp1 fun x H Q _ => ∃ (g dx : Addr) (F : List As), x = .ref g ∧ Sat (At (.ref g) (ObjX a.Reader dx []) :: F) H ∧ ∀ l t, Ent (RdA a g dx l t .non [] [] [] [] F) (fun H' => Q .non H')
theorem ok_Reader__init (T : Txt K mg a) : CalC P w K mg base CX0 1 a.Reader "Reader" ["self"] (sp_Reader__init K a) := by
  obtain ⟨fd, F, b⟩ := T.f_Reader__init
  refine ⟨a.Reader__init, fd, F.ok sc_Reader__init (fun vs H Q E h => sp1_len h) (fun cdv A outer s H vs Q E hr h => ?_), T.k_Reader, T.g_Reader, b⟩
  refine ⟨_, (pss_cons (ps_fld (pv 0) pe_non rfl)
 (pss_cons (ps_fld (pv 0) (pe_lst pa_nil) rfl)
 (pss_one (ps_fld (pv 0) (pe_lst pa_nil) rfl)))), ?_⟩
  try dsimp only [cxOf, Cx.nox, Cx.wish, List.map_cons, List.map_nil]
  obtain ⟨x, rfl, h⟩ := h
  rw [show L2.start N_Reader__init [x] = [some x] from rfl]
  obtain ⟨g, dx, F, rfl, s, k⟩ := h
  refine Ent.at s ?_
  clear s
  fail "egs"
  refine e_setF T.c_Reader T.n_Reader_head (by decide) ?_
  rw [show putF "head" .non ([] : List (Str × V)) = ([("head", .non)] : List (Str × V)) from rfl]
  fail "egs"
  refine e_lst (by simp) fun l => ?_
  fail "egs"
  refine e_setF T.c_Reader T.n_Reader_read_lines (by simp) ?_
  rw [show putF "read_lines" (.ref l) ([("head", .non)] : List (Str × V)) = ([("head", .non), ("read_lines", .ref l)] : List (Str × V)) from rfl]
  fail "egs"
  refine e_lst (by simp) fun t => ?_
  fail "egs"
  refine e_setF T.c_Reader T.n_Reader_read_tasks (by simp) ?_
  rw [show putF "read_tasks" (.ref t) ([("head", .non), ("read_lines", .ref l)] : List (Str × V)) = RdF .non l t from rfl]
  refine e_kn (.int 14) (PrF [] []) PrF.mono (fun k h s i q x e1 e2 => by cases e1) ?_
  refine e_kn (.int 15) (TskF [] []) TskF.mono (fun k h s i q x m e1 e2 => by cases e1) ?_
  fail "egs"
  rw [show LstX [] = LstX (([] : List Addr).map V.ref) from rfl]
  exact (k l t).to
theorem e_reader {Pl : List As} {Q : VK} (k : ∀ g dx l t, Ent (RdA a g dx l t .non [] [] [] [] Pl) (fun H => Q (.ref g) H)) : Ent Pl (fun H => kMake a.Reader (sp_Reader__init K a) E0 [] H Q) :=
  e_makeO fun g dx H s => sp1_mk ⟨g, dx, Pl, rfl, s, fun l t H2 s2 => ⟨rfl, k g dx l t H2 s2⟩⟩
def sp_Reader_take (K : PySem.W.Frag) (a : Adr) : Sp := sp2 fun x y H Q _ => ∃ (g dx l t w : Addr) (las tas : List Addr) (ls : List (Int × Int)) (ts : List (Int × List Int)) (F : List As) (ws : List Str), x = .ref g ∧ y = .ref w ∧ las.length = ls.length ∧ tas.length = ts.length ∧ las.length ≤ 100 ∧ tas.length ≤ 100 ∧ Sees F w (.lst (ws.map V.str)) ∧
  ((∃ (b : Option Int) (kp : Bool), ws = lnHead b kp ∧ (∀ z, b = some z → 0 ≤ z ∧ z < 401) ∧ Sat (RdA a g dx l t .non las tas ls ts F) H ∧ ∀ hp, Ent (At (.ref hp) (KTup [bV b, .str (chS kp)]) :: RdA a g dx l t (.ref hp) las tas ls ts F) (fun H' => Q (.bl true) H')) ∨
   (∃ (hp : Addr) (q s : Int), ws = lnRow (q, s) ∧ (0 ≤ q ∧ q < 401 ∧ 0 ≤ s ∧ s < 401) ∧ ts = [] ∧ Sat (RdA a g dx l t (.ref hp) las tas ls ts F) H ∧ ∀ n, Ent (RdA a g dx l t (.ref hp) (las ++ [n]) tas (ls ++ [(q, s)]) ts F) (fun H' => Q (.bl true) H')) ∨
   (∃ (hp : Addr) (m : Int) (bs : List Int), ws = lnTask (m, bs) ∧ (0 ≤ m ∧ m < 401 ∧ BurOk bs) ∧ Sat (RdA a g dx l t (.ref hp) las tas ls ts F) H ∧ ∀ n, Ent (RdA a g dx l t (.ref hp) las (tas ++ [n]) ls (ts ++ [(m, bs)]) F) (fun H' => Q (.bl true) H')))
theorem ok_Reader_take (T : Txt K mg a) : CalM P w K mg base CX0 2 a.Reader "take" ["self", "words"] (sp_Reader_take K a) := by
  obtain ⟨fd, F, b⟩ := T.f_Reader_take
  refine ⟨a.Reader_take, fd, F.ok sc_Reader_take (fun vs H Q E h => sp2_len h) (fun cdv A outer s H vs Q E hr h => ?_), T.m_Reader_take, b, T.c_Reader⟩
  refine ⟨_, (pss_cons (ps_asg (pv 1) (pg_unS (n := 2) (i := 1) rfl (pgs_cons (pg_name (i := 2) sc_Reader_take.nd rfl (Or.inl rfl)) (pgs_star (pg_name (i := 3) sc_Reader_take.nd rfl (Or.inl rfl)) pgs_nil))))
 (pss_cons (ps_if (pt_cmpR op_isN1 (pe_fld (pv 0) rfl) pe_non (nomark _))
 (pss_cons (ps_if (PW.pt (pw_or (pt_cmpR op_ne (pv 2) (q_cS T.g_RULES) (nomark _)) (pw_or (pt_cmpR op_ne (pe_callB qr_len (by rfl) T.z_len (by decide +kernel) (pa_cons (pv 3) pa_nil)) pe_int (nomark _)) (pw_or1 (pt_cmpR op_eq (pe_ix ix_list (pv 3) pe_int (fun _ _ => rfl)) pe_str (nomark _))))))
 (pss_one (ps_ret pe_bl))
 pss_nil)
 (pss_cons (ps_if (PW.pt (pw_and (pt_cmpR op_ne (pe_ix ix_list (pv 3) pe_int (fun _ _ => rfl)) (q_cS T.g_NONE) (nomark _)) (pw_and1 (pt_cmpR op_isN1 (q_call (ok_number_of T) (hr.mono (by decide)) pass0 (pa_cons (pe_ix ix_list (pv 3) pe_int (fun _ _ => rfl)) pa_nil)) pe_non (nomark _)))))
 (pss_one (ps_ret pe_bl))
 pss_nil)
 (pss_cons (ps_fld (pv 0) (pe_tup (pa_cons (pe_ifExp (pt_cmpR op_eq (pe_ix ix_list (pv 3) pe_int (fun _ _ => rfl)) (q_cS T.g_NONE) (nomark _)) pe_non (q_call (ok_number_of T) (hr.mono (by decide)) pass0 (pa_cons (pe_ix ix_list (pv 3) pe_int (fun _ _ => rfl)) pa_nil))) (pa_cons (pe_ix ix_list (pv 3) pe_int (fun _ _ => rfl)) pa_nil))) rfl)
 (pss_one (ps_ret pe_bl)))))
 pss_nil)
 (pss_cons (ps_setLc (i := 4) (own := [("word", 5)]) (g := (gName 5)) (tt := tYes) (te := (tCall (sp_number_of K a) [] E0 (tCons (tVar 5) tNil))) rfl sc_Reader_take.nd rfl rfl (sw_true rfl rfl rfl (by decide +kernel)) (pi_list (pv 3)) (blkOk_by (N := N_Reader_take) (sc := (defScope s_Reader_take)) (by decide +kernel)) (fun _ _ _ _ _ => (pg_name (i := 5) sc_Reader_take.nd rfl (Or.inl rfl))) (fun _ _ _ _ _ => pts_nil) (fun _ _ _ _ _ => (q_call (ok_number_of T) (hr.mono (by decide)) pass0 (pa_cons (pv 5) pa_nil))))
 (pss_cons (ps_if (PW.pt (pw_or (pt_cmpR op_in_seq pe_non (pv 4) (by rfl)) (pw_or1 (pt_cmpR op_notIn_seq (pv 2) (pe_tup (pa_cons (q_cS T.g_ROW) (pa_cons (q_cS T.g_TASK) pa_nil))) (by rfl)))))
 (pss_one (ps_ret pe_bl))
 pss_nil)
 (pss_cons (ps_if (pt_cmpR op_eq (pv 2) (q_cS T.g_ROW) (nomark _))
 (pss_cons (ps_expr (pe_bm PySem.F.plainAttrs_list PySem.F.slot_list_append PySem.F.type_list_append mt_append (pe_fld (pv 0) rfl) (pa_cons (pe_callTy qr_tuple (by rfl) T.z_tuple (by decide +kernel) (pa_cons (pv 4) pa_nil)) pa_nil)))
 (pss_one (ps_ret (pe_and (pe_cmpR op_eq (pe_callB qr_len (by rfl) T.z_len (by decide +kernel) (pa_cons (pv 4) pa_nil)) pe_int (nomark _)) (pe_one (pe_cmpR (op_eqD (by exact hr.units)) (pe_fld (pv 0) rfl) (pe_lst pa_nil) (nomark _)))))))
 pss_nil)
 (pss_cons (ps_expr (pe_bm PySem.F.plainAttrs_list PySem.F.slot_list_append PySem.F.type_list_append mt_append (pe_fld (pv 0) rfl) (pa_cons (pe_tup (pa_cons (pe_ifExp (pt_cmpR (op_neD (by exact hr.units)) (pv 4) (pe_lst pa_nil) (nomark _)) (pe_ix ix_list (pv 4) pe_int (fun _ _ => rfl)) pe_int) (pa_cons (pe_callTy qr_tuple (by rfl) T.z_tuple (by decide +kernel) (pa_cons (pe_slice sl_list (pv 4) (po_some pe_int) po_none) pa_nil)) pa_nil))) pa_nil)))
 (pss_one (ps_ret (pe_cmpR qo_gt (pe_callB qr_len (by rfl) T.z_len (by decide +kernel) (pa_cons (pv 4) pa_nil)) pe_int (nomark _)))))))))), ?_⟩
  try dsimp only [cxOf, Cx.nox, Cx.wish, List.map_cons, List.map_nil]
  obtain ⟨x, y, rfl, h⟩ := h
  rw [show L2.start N_Reader_take [x, y] = [some x, some y, none, none, none, none] from rfl]
  obtain ⟨g, dx, l, t, w, las, tas, ls, ts, F, ws, rfl, rfl, hl1, hl2, hl3, hl4, sw, h⟩ := h
  rcases h with ⟨b, kp, hws, hb, s, k⟩ | ⟨hp, q, sh, hws, hqs, rfl, s, k⟩ | ⟨hp, m, bs, hws, hm, s, k⟩
  · refine Ent.at s ?_
    clear s
    have hw0 : ∃ bS : Str, ws.map V.str = .str "rules" :: [.str bS, .str (chS kp)] ∧ ((b = none ∧ bS = "-") ∨ ∃ n : Nat, n < 401 ∧ b = some (n : Int) ∧ bS = numS n) := by
      rw [hws]
      cases b with
      | none => exact ⟨"-", rfl, .inl ⟨rfl, rfl⟩⟩
      | some z =>
        obtain ⟨z0, z1⟩ := hb z rfl
        obtain ⟨n, rfl⟩ := Int.eq_ofNat_of_zero_le z0
        exact ⟨numS n, rfl, .inr ⟨n, by omega, rfl, rfl⟩⟩
    obtain ⟨bS, hw1, hbS⟩ := hw0
    rw [hw1] at sw
    haveI : Sees F w (.lst (.str "rules" :: [.str bS, .str (chS kp)])) := sw
    have hk1 : (chS kp = Str.ofString "") = False := by cases kp <;> exact eq_false (by decide +kernel)
    fail "egs"
    refine e_un1 (by simp) fun rs => ?_
    fail "egs"
    refine e_fld T.c_Reader T.n_Reader_head rfl ?_
    fail "egs"
    refine e_F (by decide +kernel) ?_
    fail "egs"
    refine e_F (b := !decide ((([V.str bS, V.str (chS kp)] : List V).length : Int) = 2)) (by simp) ?_
    fail "egs"
    refine e_FD (by rw [hk1]; exact not_false) ?_
    fail "egs"
    refine Ent.to (Q := At (.ref rs) (LstX [.str bS, .str (chS kp)]) :: RdA a g dx l t .non las tas ls ts F) ?_
    rcases hbS with ⟨rfl, rfl⟩ | ⟨n, hn, rfl, rfl⟩
    · refine e_FN rfl ?_
      fail "egs"
      refine e_TD rfl ?_
      fail "egs"
      refine e_tup (by simp) fun hp => ?_
      fail "egs"
      refine e_setF T.c_Reader T.n_Reader_head (by simp) ?_
      rw [show putF "head" (.ref hp) (RdF .non l t) = RdF (.ref hp) l t from rfl]
      fail "egs"
      have k2 : Ent (At (.ref hp) (KTup [.non, .str (chS kp)]) :: RdA a g dx l t (.ref hp) las tas ls ts F) (fun H' => Q (.bl true) H') := k hp
      exact k2.to
    · refine e_TN numS_dash ?_
      fail "egs"
      refine e_number hn ?_
      fail "egs"
      refine e_FD numS_dash ?_
      fail "egs"
      refine e_number hn ?_
      fail "egs"
      refine e_tup (by simp) fun hp => ?_
      fail "egs"
      refine e_setF T.c_Reader T.n_Reader_head (by simp) ?_
      rw [show putF "head" (.ref hp) (RdF .non l t) = RdF (.ref hp) l t from rfl]
      fail "egs"
      have k2 : Ent (At (.ref hp) (KTup [.int (n : Int), .str (chS kp)]) :: RdA a g dx l t (.ref hp) las tas ls ts F) (fun H' => Q (.bl true) H') := k hp
      exact k2.to
  · refine Ent.at s ?_
    clear s
    obtain ⟨q0, q1, s0, s1⟩ := hqs
    obtain ⟨qn, rfl⟩ := Int.eq_ofNat_of_zero_le q0
    obtain ⟨sn, rfl⟩ := Int.eq_ofNat_of_zero_le s0
    have hw1 : ws.map V.str = .str "line" :: ([qn, sn].map numS).map V.str := by rw [hws]; rfl
    have hns : ∀ n ∈ [qn, sn], n < 401 := fun n hn => by
      simp only [List.mem_cons, List.not_mem_nil, or_false] at hn
      omega
    rw [hw1] at sw
    haveI : Sees F w (.lst (.str "line" :: ([qn, sn].map numS).map V.str)) := sw
    fail "egs"
    refine e_un1 (by simp) fun rs => ?_
    fail "egs"
    refine e_fld T.c_Reader T.n_Reader_head rfl ?_
    fail "egs"
    refine e_lcG [qn, sn] (fun n : Nat => some (V.int (n : Int))) inferInstance (by simp) (fun D j x y hx hy => ?_) fun D => ?_
    · rw [List.getElem?_map, List.getElem?_map, hy] at hx
      cases Option.some.inj hx
      fail "egs"
      refine e_and rfl ?_
      fail "egs"
      refine e_number (hns y (List.mem_of_getElem? hy)) ?_
      fail "egs"
      refine e_some (f := fun n : Nat => some (V.int (n : Int))) (y := V.int (y : Int)) (u := y) hy rfl (by simp) ?_
      infer_instance
    rw [show [qn, sn].filterMap (fun n : Nat => some (V.int (n : Int))) = ([qn, sn].map fun n : Nat => (n : Int)).map V.int from rfl]
    fail "egs"
    refine e_inNon ?_
    fail "egs"
    refine e_tup (by simp) fun tp => ?_
    refine e_inTup (b := false) rfl rfl (by decide +kernel) ?_
    fail "egs"
    refine e_TD rfl ?_
    fail "egs"
    refine e_fld T.c_Reader T.n_Reader_read_lines rfl ?_
    fail "egs"
    refine e_tuple fun nq => ?_
    fail "egs"
    refine e_append (by rw [List.length_map]; omega) ?_
    rw [show las.map V.ref ++ [V.ref nq] = (las ++ [nq]).map V.ref by rw [List.map_append]; rfl]
    refine e_kn (.int 14) (PrF (las ++ [nq]) (ls ++ [((qn : Int), (sn : Int))])) PrF.mono (fun k h s => (kn_of (φ := PrF las ls) (m := PrF.mono) (v := .int 14) inferInstance s : PrF las ls k).snoc hl1 (kl_of (q := nq) s)) ?_
    have hk := k nq
    clear k
    generalize las ++ [nq] = las2 at hk ⊢
    generalize ls ++ [((qn : Int), (sn : Int))] = ls2 at hk ⊢
    have ht0 : tas = [] := List.eq_nil_of_length_eq_zero hl2
    subst ht0
    refine Ent.to (Q := At (.ref D) (LstX (([qn, sn].map fun n : Nat => (n : Int)).map V.int)) :: RdA a g dx l t (.ref hp) las2 [] ls2 [] F) ?_
    rw [show RdA a g dx l t (.ref hp) las2 [] ls2 [] F = At (.ref g) (ObjX a.Reader dx (RdF (.ref hp) l t)) :: At (.ref l) (LstX (las2.map V.ref)) :: At (.ref t) (LstX []) :: At (.int 14) (PrK las2 ls2) :: At (.int 15) (TskK [] []) :: F from rfl] at hk ⊢
    fail "egs"
    refine e_TD (by simp) ?_
    fail "egs"
    refine e_fld T.c_Reader T.n_Reader_read_tasks rfl ?_
    fail "egs"
    refine e_lst (by simp) fun l9 => ?_
    refine e_eqSame (.list []) ((sh_lst (n := 0) sh_nil).mono (by decide)) ?_
    fail "egs"
    exact hk.to
  · refine Ent.at s ?_
    clear s
    obtain ⟨m0, m1, b1, b9, b40⟩ := hm
    obtain ⟨mn, rfl⟩ := Int.eq_ofNat_of_zero_le m0
    obtain ⟨bn, hbn⟩ : ∃ bn : List Nat, bs = bn.map fun n : Nat => (n : Int) := ⟨bs.map Int.toNat, by
      rw [List.map_map]
      apply List.ext_getElem
      · simp
      · intro i h1 h2
        have := (b40 bs[i] (List.getElem_mem h1)).1
        simp
        omega⟩
    subst hbn
    have hw1 : ws.map V.str = .str "task" :: ((mn :: bn).map numS).map V.str := by
      rw [hws]
      unfold lnTask
      simp only [List.map_cons, List.map_map]
      rfl
    have hns : ∀ n ∈ mn :: bn, n < 401 := fun n hn => by
      rcases List.mem_cons.mp hn with z | z
      · omega
      · have := (b40 (n : Int) (List.mem_map.mpr ⟨n, z, rfl⟩)).2
        omega
    rw [List.length_map] at b1 b9
    rw [hw1] at sw
    haveI : Sees F w (.lst (.str "task" :: ((mn :: bn).map numS).map V.str)) := sw
    fail "egs"
    refine e_un1 (by simp; omega) fun rs => ?_
    fail "egs"
    refine e_fld T.c_Reader T.n_Reader_head rfl ?_
    fail "egs"
    refine e_lcG (mn :: bn) (fun n : Nat => some (V.int (n : Int))) inferInstance (by simp) (fun D j x y hx hy => ?_) fun D => ?_
    · rw [List.getElem?_map, List.getElem?_map, hy] at hx
      cases Option.some.inj hx
      fail "egs"
      refine e_and rfl ?_
      fail "egs"
      refine e_number (hns y (List.mem_of_getElem? hy)) ?_
      fail "egs"
      refine e_some (f := fun n : Nat => some (V.int (n : Int))) (y := V.int (y : Int)) (u := y) hy rfl (by simp; omega) ?_
      infer_instance
    rw [show (mn :: bn).filterMap (fun n : Nat => some (V.int (n : Int))) = ((mn :: bn).map fun n : Nat => (n : Int)).map V.int by rw [List.map_map]; exact fm_someT]
    fail "egs"
    refine e_inNon ?_
    fail "egs"
    refine e_tup (by simp) fun tp => ?_
    refine e_inTup (b := false) rfl rfl (by decide +kernel) ?_
    fail "egs"
    refine e_FD (by decide +kernel) ?_
    fail "egs"
    refine e_fld T.c_Reader T.n_Reader_read_tasks rfl ?_
    fail "egs"
    refine e_lst (by simp) fun l9 => ?_
    fail "egs"
    refine e_T (by simp) ?_
    fail "egs"
    refine e_ixL (v := .int (mn : Int)) (atI_nat (j := 0) rfl) ?_
    fail "egs"
    refine e_slL fun D2 => ?_
    rw [show (some (1 : Int)) = some (((1 : Nat) : Int)) from rfl, cut_from, show List.drop 1 (((mn :: bn).map fun n : Nat => (n : Int)).map V.int) = (bn.map fun n : Nat => (n : Int)).map V.int from rfl]
    fail "egs"
    refine e_tuple fun bt => ?_
    fail "egs"
    refine e_tup (by simp) fun nq => ?_
    fail "egs"
    refine e_append (by rw [List.length_map]; omega) ?_
    rw [show tas.map V.ref ++ [V.ref nq] = (tas ++ [nq]).map V.ref by rw [List.map_append]; rfl]
    refine e_kn (.int 15) (TskF (tas ++ [nq]) (ts ++ [((mn : Int), bn.map fun n : Nat => (n : Int))])) TskF.mono (fun k h s => (kn_of (φ := TskF tas ts) (m := TskF.mono) (v := .int 15) inferInstance s : TskF tas ts k).snocG hl2 (kl_of (q := nq) s) (kl_of (q := bt) s)) ?_
    have hk := k nq
    clear k
    generalize tas ++ [nq] = tas2 at hk ⊢
    generalize ts ++ [((mn : Int), bn.map fun n : Nat => (n : Int))] = ts2 at hk ⊢
    refine Ent.to (Q := At (.ref D) (LstX (((mn :: bn).map fun n : Nat => (n : Int)).map V.int)) :: RdA a g dx l t (.ref hp) las tas2 ls ts2 F) ?_
    fail "egs"
    rw [decide_eq_true (by simp; omega)]
    exact hk.to
theorem e_takeH {Pl F : List As} {g dx l t w : Addr} {b : Option Int} {kp : Bool} {Q : VK} {E : XK} [sw : Sees F w (.lst ((lnHead b kp).map V.str))] [im : Imp Pl (RdA a g dx l t .non [] [] [] [] F)] (hb : ∀ z, b = some z → 0 ≤ z ∧ z < 401)
    (k : ∀ hp, Ent (At (.ref hp) (KTup [bV b, .str (chS kp)]) :: RdA a g dx l t (.ref hp) [] [] [] [] F) (fun H' => Q (.bl true) H')) : Ent Pl (fun H => sp_Reader_take K a [.ref g, .ref w] H Q E) := fun H s =>
  sp2_mk ⟨g, dx, l, t, w, [], [], [], [], F, _, rfl, rfl, rfl, rfl, by simp, by simp, sw, .inl ⟨b, kp, rfl, hb, s.imp im.imp, k⟩⟩
theorem e_takeL {Pl F : List As} {g dx l t w hp : Addr} {las tas : List Addr} {ls : List (Int × Int)} {q s : Int} {Q : VK} {E : XK} [sw : Sees F w (.lst ((lnRow (q, s)).map V.str))] [im : Imp Pl (RdA a g dx l t (.ref hp) las tas ls [] F)] (h1 : las.length = ls.length) (h2 : tas.length = 0) (h3 : las.length ≤ 100) (h4 : 0 ≤ q ∧ q < 401 ∧ 0 ≤ s ∧ s < 401)
    (k : ∀ n, Ent (RdA a g dx l t (.ref hp) (las ++ [n]) tas (ls ++ [(q, s)]) [] F) (fun H' => Q (.bl true) H')) : Ent Pl (fun H => sp_Reader_take K a [.ref g, .ref w] H Q E) := fun H z =>
  sp2_mk ⟨g, dx, l, t, w, las, tas, ls, [], F, _, rfl, rfl, h1, h2, h3, by omega, sw, .inr (.inl ⟨hp, q, s, rfl, h4, rfl, z.imp im.imp, k⟩)⟩
theorem e_takeT {Pl F : List As} {g dx l t w hp : Addr} {las tas : List Addr} {ls : List (Int × Int)} {ts : List (Int × List Int)} {m : Int} {bs : List Int} {Q : VK} {E : XK} [sw : Sees F w (.lst ((lnTask (m, bs)).map V.str))] [im : Imp Pl (RdA a g dx l t (.ref hp) las tas ls ts F)] (h1 : las.length = ls.length) (h2 : tas.length = ts.length) (h3 : las.length ≤ 100) (h5 : tas.length ≤ 100) (h4 : 0 ≤ m ∧ m < 401 ∧ BurOk bs)
    (k : ∀ n, Ent (RdA a g dx l t (.ref hp) las (tas ++ [n]) ls (ts ++ [(m, bs)]) F) (fun H' => Q (.bl true) H')) : Ent Pl (fun H => sp_Reader_take K a [.ref g, .ref w] H Q E) := fun H z =>
  sp2_mk ⟨g, dx, l, t, w, las, tas, ls, ts, F, _, rfl, rfl, h1, h2, h3, h5, sw, .inr (.inr ⟨hp, m, bs, rfl, h4, z.imp im.imp, k⟩)⟩
theorem e_rlsOf {Pl : List As} {q : Addr} {las : List Addr} {R : Rul} {X : Hp → Prop} (hl : las.length = R.lines.length) (hp : ∀ k h, SatL Pl k h → PrF las R.lines k) [t : Sees Pl q (.tup (las.map V.ref))] (k : Ent (At (.ref q) (RlsX R) :: Pl) X) : Ent Pl X := fun H s => k H <| by
  have e := t.sees H s
  have s' := s
  obtain ⟨g, h0, s1, s2, ap, nt, y⟩ := s'
  have hp' := hp g h0 y
  refine s.learn (k2 := tups H) tups_sub (fun b n => tups_tup n) ⟨q, las, rfl, tups_of e, hl, fun i p ei => ?_⟩
  have hi : i < R.lines.length := by have := (List.getElem?_eq_some_iff.mp ei).1; omega
  have h1 := hp' i p R.lines[i] ei (List.getElem?_eq_getElem hi)
  have hq : R.q i = R.lines[i].1 ∧ R.s i = R.lines[i].2 := by
    unfold Rul.q Rul.s
    rw [List.getD_eq_getElem?_getD, List.getElem?_eq_getElem hi]
    exact ⟨rfl, rfl⟩
  rw [hq.1, hq.2]
  exact tups_of (s1 _ _ h1)
def sp_read (K : PySem.W.Frag) (a : Adr) : Sp := sp1 fun x H Q _ => ∃ (R : Rul) (ts : List (Int × List Int)) (F : List As), x = .str (textT R ts) ∧ R.Ok ∧ TasksOk ts ∧ Sat F H ∧
  ∀ (r ra D : Addr) (qs : List Addr), qs.length = ts.length → Ent (At (.ref r) (KTup [.ref ra, .ref D]) :: At (.ref ra) (RulX R) :: At (.ref D) (LstX (qs.map V.ref)) :: At (.int 15) (TskK qs ts) :: F) (fun H' => Q (.ref r) H')
theorem ok_read (T : Txt K mg a) : Cal P w K mg base CX0 4 "read" ["text"] (sp_read K a) := by
  obtain ⟨fd, F, b⟩ := T.f_read
  refine ⟨a.read, fd, F.ok sc_read (fun vs H Q E h => sp1_len h) (fun cdv A outer s H vs Q E hr h => ?_), T.g_read, F.kp, b⟩
  refine ⟨_, (pss_cons (ps_set (i := 1) sc_read.nd rfl (Or.inl rfl) (q_make0 (ok_Reader__init T) (hr.mono (by decide)) pass0))
 (pss_cons (ps_for PassesOwn.never rfl (pi_enum (by rfl) T.z_enumerate (pa_cons (qe_split (pv 0) (q_cS T.g_LINE)) pa_nil)) (pg_tup (n := 2) rfl (pgs_cons (pg_name (i := 2) sc_read.nd rfl (Or.inl rfl)) (pgs_cons (pg_name (i := 3) sc_read.nd rfl (Or.inl rfl)) pgs_nil)))
 (pss_one (ps_if (pt_not (pt_val (q_meth (ok_Reader_take T) (hr.mono (by decide)) pass0 (pv 1) (pa_cons (qe_split (pv 3) pe_str) pa_nil))))
 pss_never
 pss_nil)))
 (pss_cons (ps_asg (pe_fld (pv 1) rfl) (pg_tup (n := 2) rfl (pgs_cons (pg_name (i := 4) sc_read.nd rfl (Or.inl rfl)) (pgs_cons (pg_name (i := 5) sc_read.nd rfl (Or.inl rfl)) pgs_nil))))
 (pss_cons (ps_set (i := 6) sc_read.nd rfl (Or.inl rfl) (pe_tup (pa_cons (pe_callTy qr_tuple (by rfl) T.z_tuple (by decide +kernel) (pa_cons (pe_fld (pv 1) rfl) pa_nil)) (pa_cons (pv 4) (pa_cons (pv 5) pa_nil)))))
 (pss_cons (ps_expr (q_call (ok_need_rules T) (hr.mono (by decide)) pass0 (pa_cons (pv 6) pa_nil)))
 (pss_cons (ps_expr (q_call (ok_need_tasks T) (hr.mono (by decide)) pass0 (pa_cons (pe_fld (pv 1) rfl) pa_nil)))
 (pss_one (ps_ret (pe_tup (pa_cons (pv 6) (pa_cons (pe_fld (pv 1) rfl) pa_nil))))))))))), ?_⟩
  try dsimp only [cxOf, Cx.nox, Cx.wish, List.map_cons, List.map_nil]
  obtain ⟨x, rfl, h⟩ := h
  rw [show L2.start N_read [x] = [some x, none, none, none, none, none, none] from rfl]
  obtain ⟨R, ts, F, rfl, ok, tok, s, k⟩ := h
  refine Ent.at s ?_
  clear s
  have hlen := text_len (RulN.of ok) tok
  fail "egs"
  refine e_reader fun g dx l t => ?_
  fail "egs"
  refine e_split (by decide +kernel) (by unfold sizeLine; omega) fun D0 => ?_
  rw [text_split (RulN.of ok) tok]
  fail "egs"
  generalize hrt : rowsT R ts = rows
  have hrl : rows.length = 1 + R.lines.length + ts.length := by rw [← hrt]; exact rows_len
  have hrow : ∀ i (hi : i < rows.length), ∃ ws, (lnAll R ts)[i]? = some ws ∧ rows[i]? = some (Txt.join " " ws) := fun i hi => by
    subst hrt
    unfold rowsT at hi ⊢
    rw [List.length_map] at hi
    exact ⟨_, List.getElem?_eq_getElem hi, by rw [List.getElem?_map, List.getElem?_eq_getElem hi]; rfl⟩
  have h12 := tok.1
  have h4 := ok.four
  refine e_forE (rows.map V.str) (fun i σ P' => ∃ v2 v3, σ = [some (.str (textT R ts)), some (.ref g), v2, v3, none, none, none] ∧
    ((i = 0 ∧ P' = RdA a g dx l t .non [] [] [] [] (At (.ref D0) (LstX (rows.map V.str)) :: F)) ∨
     (∃ (hp : Addr) (las tas : List Addr), 1 ≤ i ∧ las.length = (R.lines.take (i - 1)).length ∧ tas.length = (ts.take (i - 1 - R.lines.length)).length ∧
      P' = At (.ref hp) (KTup [bV R.boost, .str (chS R.kept)]) :: RdA a g dx l t (.ref hp) las tas (R.lines.take (i - 1)) (ts.take (i - 1 - R.lines.length)) (At (.ref D0) (LstX (rows.map V.str)) :: F))))
    (P0 := RdA a g dx l t .non [] [] [] [] (At (.ref D0) (LstX (rows.map V.str)) :: F)) ⟨_, _, rfl, .inl ⟨rfl, rfl⟩⟩ (fun i σ P' h H s => by
      obtain ⟨_, _, _, h⟩ := h
      rcases h with ⟨_, rfl⟩ | ⟨hp, las, tas, _, _, _, rfl⟩
      · have : Sees (RdA a g dx l t .non [] [] [] [] (At (.ref D0) (LstX (rows.map V.str)) :: F)) D0 (.lst (rows.map V.str)) := inferInstance
        exact this.sees H s
      · have : Sees (At (.ref hp) (KTup [bV R.boost, .str (chS R.kept)]) :: RdA a g dx l t (.ref hp) las tas (R.lines.take (i - 1)) (ts.take (i - 1 - R.lines.length)) (At (.ref D0) (LstX (rows.map V.str)) :: F)) D0 (.lst (rows.map V.str)) := inferInstance
        exact this.sees H s) ?_ ?_
  · rintro i x σ P' T2 hx ⟨v2, v3, rfl, hI⟩
    rw [List.getElem?_map] at hx
    obtain ⟨rw_, hrw, rfl⟩ := Option.map_eq_some_iff.mp hx
    have hi := (List.getElem?_eq_some_iff.mp hrw).1
    obtain ⟨ws, hws, hr2⟩ := hrow i hi
    rw [hrw] at hr2
    cases Option.some.inj hr2
    have hwrd := lnAll_wrd (RulN.of ok) tok ws (List.mem_of_getElem? hws)
    have hsp := line_split hwrd.1 hwrd.2.2
    have hll := line_len hwrd.2.2
    rcases hI with ⟨rfl, rfl⟩ | ⟨hp, las, tas, h1, hla, hta, rfl⟩
    · have hw0 : ws = lnHead R.boost R.kept := (Option.some.inj hws).symm
      fail "egs"
      refine e_methO rfl ?_
      fail "egs"
      refine e_split (by decide +kernel) (by unfold sizeLine; omega) fun D1 => ?_
      rw [hsp, hw0]
      fail "egs"
      refine e_takeH (g := g) (dx := dx) (l := l) (t := t) (F := At (.ref D1) (LstX ((lnHead R.boost R.kept).map V.str)) :: At (.ref D0) (LstX (rows.map V.str)) :: F) (fun z hz => by have := ok.boosts z hz; omega) fun hp => ?_
      fail "egs"
      refine e_nx ?_
      refine ⟨_, ⟨_, _, rfl, .inr ⟨hp, [], [], by omega, by simp, by simp, rfl⟩⟩, ?_⟩
      rw [show R.lines.take (0 + 1 - 1) = [] from rfl, show ts.take (0 + 1 - 1 - R.lines.length) = [] by simp]
      infer_instance
    · obtain ⟨j, rfl⟩ : ∃ j, i = j + 1 := ⟨i - 1, by omega⟩
      rw [Nat.add_sub_cancel] at hla hta ⊢
      have hws2 : (R.lines.map lnRow ++ ts.map lnTask)[j]? = some ws := hws
      by_cases hj : j < R.lines.length
      · have hx1 := ok.each _ (List.getElem_mem hj)
        have hw0 : ws = lnRow (R.lines[j].1, R.lines[j].2) := by
          rw [List.getElem?_append_left (by simpa using hj), List.getElem?_map, List.getElem?_eq_getElem hj] at hws2
          exact (Option.some.inj hws2).symm
        have hts : R.lines.take (j + 1) = R.lines.take j ++ [(R.lines[j].1, R.lines[j].2)] := by rw [List.take_succ, List.getElem?_eq_getElem hj]; rfl
        generalize R.lines[j] = xl at hx1 hw0 hts
        rw [show j - R.lines.length = 0 by omega, List.take_zero] at hta ⊢
        fail "egs"
        refine e_methO rfl ?_
        fail "egs"
        refine e_split (by decide +kernel) (by unfold sizeLine; omega) fun D1 => ?_
        rw [hsp, hw0]
        fail "egs"
        refine e_takeL (g := g) (dx := dx) (l := l) (t := t) (hp := hp) (las := las) (tas := tas) (ls := R.lines.take j) (F := At (.ref hp) (KTup [bV R.boost, .str (chS R.kept)]) :: At (.ref D1) (LstX ((lnRow (xl.1, xl.2)).map V.str)) :: At (.ref D0) (LstX (rows.map V.str)) :: F) hla hta (by rw [hla, List.length_take]; omega) (by omega) fun nq => ?_
        fail "egs"
        refine e_nx ?_
        refine ⟨_, ⟨_, _, rfl, .inr ⟨hp, las ++ [nq], tas, by omega, by rw [Nat.add_sub_cancel, hts, List.length_append, List.length_append, hla]; rfl, by rw [hta]; simp; omega, rfl⟩⟩, ?_⟩
        rw [Nat.add_sub_cancel, hts, show ts.take (j + 1 - R.lines.length) = [] by rw [show j + 1 - R.lines.length = 0 by omega]; rfl]
        infer_instance
      · have hj2 : j - R.lines.length < ts.length := by omega
        obtain ⟨m0, m1, bo⟩ := tok.2 _ (List.getElem_mem hj2)
        have hw0 : ws = lnTask (ts[j - R.lines.length].1, ts[j - R.lines.length].2) := by
          rw [List.getElem?_append_right (by simp; omega), List.getElem?_map, List.length_map, List.getElem?_eq_getElem hj2] at hws2
          exact (Option.some.inj hws2).symm
        have hts : ts.take (j + 1 - R.lines.length) = ts.take (j - R.lines.length) ++ [(ts[j - R.lines.length].1, ts[j - R.lines.length].2)] := by
          rw [show j + 1 - R.lines.length = (j - R.lines.length) + 1 by omega, List.take_succ, List.getElem?_eq_getElem hj2]; rfl
        have htl : R.lines.take (j + 1) = R.lines.take j := by rw [List.take_of_length_le (by omega), List.take_of_length_le (by omega)]
        generalize ts[j - R.lines.length] = xt at m0 m1 bo hw0 hts
        fail "egs"
        refine e_methO rfl ?_
        fail "egs"
        refine e_split (by decide +kernel) (by unfold sizeLine; omega) fun D1 => ?_
        rw [hsp, hw0]
        fail "egs"
        refine e_takeT (g := g) (dx := dx) (l := l) (t := t) (hp := hp) (las := las) (tas := tas) (ls := R.lines.take j) (ts := ts.take (j - R.lines.length)) (F := At (.ref hp) (KTup [bV R.boost, .str (chS R.kept)]) :: At (.ref D1) (LstX ((lnTask (xt.1, xt.2)).map V.str)) :: At (.ref D0) (LstX (rows.map V.str)) :: F) hla hta (by rw [hla, List.length_take]; omega) (by rw [hta, List.length_take]; omega) ⟨m0, by omega, bo⟩ fun nq => ?_
        fail "egs"
        refine e_nx ?_
        refine ⟨_, ⟨_, _, rfl, .inr ⟨hp, las, tas ++ [nq], by omega, by rw [Nat.add_sub_cancel, htl, hla], by rw [Nat.add_sub_cancel, hts, List.length_append, List.length_append, hta]; rfl, rfl⟩⟩, ?_⟩
        rw [Nat.add_sub_cancel, hts, htl]
        infer_instance
  · rintro σ P' ⟨v2, v3, rfl, hI⟩
    rw [List.length_map, hrl] at hI
    rcases hI with ⟨h0, _⟩ | ⟨hp, las, tas, _, hla, hta, rfl⟩
    · omega
    rw [List.take_of_length_le (show R.lines.length ≤ 1 + R.lines.length + ts.length - 1 by omega)] at hla ⊢
    rw [List.take_of_length_le (show ts.length ≤ 1 + R.lines.length + ts.length - 1 - R.lines.length by omega)] at hta ⊢
    fail "egs"
    refine e_fld T.c_Reader T.n_Reader_head rfl ?_
    fail "egs"
    refine e_fld T.c_Reader T.n_Reader_read_lines rfl ?_
    fail "egs"
    refine e_tuple fun lq => ?_
    fail "egs"
    refine e_rlsOf (q := lq) (las := las) (R := R) hla (fun k h s => kn_of (φ := PrF las R.lines) (m := PrF.mono) (v := .int 14) inferInstance s) ?_
    refine e_mkrul (R := R) (b := R.boost) (kp := R.kept) fun ra => ?_
    rw [show ({ R with boost := R.boost, kept := R.kept } : Rul) = R from rfl]
    refine Ent.to (Q := At (.ref ra) (RulX R) :: At (.ref g) (ObjX a.Reader dx (RdF (.ref hp) l t)) :: At (.ref t) (LstX (tas.map V.ref)) :: At (.int 15) (TskK tas ts) :: F) ?_
    fail "egs"
    refine e_needRules (R := R) ok ?_
    fail "egs"
    refine e_fld T.c_Reader T.n_Reader_read_tasks rfl ?_
    fail "egs"
    refine e_needTasks (qs := tas) (ts := ts) (fun k h s => kn_of (φ := TskF tas ts) (m := TskF.mono) (v := .int 15) inferInstance s) hta tok ?_
    fail "egs"
    refine e_fld T.c_Reader T.n_Reader_read_tasks rfl ?_
    fail "egs"
    refine e_tup (by simp) fun r => ?_
    fail "egs"
    exact (k r ra t tas hta).to
theorem e_read {Pl : List As} {R : Rul} {ts : List (Int × List Int)} {Q : VK} {E : XK} (ok : R.Ok) (tok : TasksOk ts)
    (k : ∀ (r ra D : Addr) (qs : List Addr), qs.length = ts.length → Ent (At (.ref r) (KTup [.ref ra, .ref D]) :: At (.ref ra) (RulX R) :: At (.ref D) (LstX (qs.map V.ref)) :: At (.int 15) (TskK qs ts) :: Pl) (fun H' => Q (.ref r) H')) : Ent Pl (fun H => sp_read K a [.str (textT R ts)] H Q E) := fun H s => sp1_mk ⟨R, ts, Pl, rfl, ok, tok, s, k⟩
end
end Qn

/-! what is written. -/
namespace Qn
open PySem L2
local macro_rules | `(tactic| fail "ne") => `(tactic| first | assumption | (apply Ne.symm; assumption) | (apply ne_of_none; assumption; assumption) | (apply Ne.symm; apply ne_of_none; assumption; assumption) | (apply ne_of; assumption; assumption; (intro z; cases z)))
local macro_rules | `(tactic| fail "hp") => `(tactic| with_reducible first | assumption | apply upd_same | (apply upd_old; rotate_left; assumption; fail "hp") | (apply upd_oth; rotate_left; fail "ne"; fail "hp"))
local macro_rules | `(tactic| fail "sl") => `(tactic| with_reducible first | assumption | (apply SqL.of; fail "hp"))
local macro_rules | `(tactic| fail "st") => `(tactic| with_reducible first | assumption | (apply SqT.of; fail "hp"))
local macro_rules | `(tactic| fail "tx") => `(tactic| with_reducible first | assumption | (apply Txt.c_Reader; assumption) | (apply Txt.n_Reader_head; assumption) | (apply Txt.n_Reader_read_lines; assumption) | (apply Txt.n_Reader_read_tasks; assumption))
local macro_rules | `(tactic| fail "lk") => `(tactic| with_reducible first | assumption | apply lk_LF_rules | apply lk_LF_cards | apply lk_LF_rows | apply lk_LF_time | apply lk_CF_line | apply lk_CF_quantum | apply lk_CF_share | apply lk_CF_is_ready | apply lk_CF_spent | (apply lk_LF_no; decide +kernel; decide +kernel; decide +kernel; decide +kernel))
local macro_rules | `(tactic| fail "at") => `(tactic| with_reducible first | assumption | apply mc_0 | apply mc_1 | apply mc_2 | apply mc_3 | apply mc_4 | apply at_0 | apply at_1 | apply at_2 | apply at_3 | apply at_4 | (apply atI_nat; assumption) | (apply at_z; assumption))
local macro_rules | `(tactic| fail "go") => `(tactic| repeat (first
  | apply rd_step
  | with_reducible (first
    | (apply r_kFld; fail "hp"; fail "tx"; fail "tx"; fail "lk")
    | (apply r_ixL; fail "sl"; fail "at") | (apply r_ixT; fail "st"; fail "at")
    | (apply r_kMeth; fail "hp"; fail "lk") | (apply r_kBML; fail "sl")
    | (apply r_lenL; fail "sl") | (apply r_lenT; fail "st") | (apply r_lenD; fail "hp")
    | (apply r_kDGetI; fail "hp"; (first | assumption | rfl)) | (apply r_kDGetS; fail "hp"; (first | assumption | apply mv_rules | apply mv_rows | apply mv_cards | apply mv_now)) | (apply r_kDInI; fail "hp") | (apply r_kDNotInI; fail "hp")
    | (apply r_kAugF; fail "hp"; fail "tx"; fail "tx"; fail "lk")
    | (apply r_isi_tuple_tuple; fail "st") | (apply r_isi_list_tuple; fail "sl") | (apply r_isi_list_list; fail "sl") | (apply r_isi_tuple_list; fail "st")
    | (apply r_kUnT; fail "st"; with_unfolding_all rfl) | (apply r_kIL; fail "sl") | (apply r_kIT; fail "st") | (apply r_kIE; fail "st") )))
local macro_rules | `(tactic| fail "eg") => `(tactic| repeat (first
  | apply stp
  | (refine e_rul0 (fun _ => ?_))

  | (refine e_tup0 (fun _ => ?_)) ))
local macro_rules | `(tactic| fail "egs") => `(tactic| (try (with_reducible refine e_seq ?_)) <;> repeat (first
  | apply stp
  | (with_reducible refine e_seq ?_)
  | (refine e_rul0 (fun _ => ?_))

  | (refine e_tup0 (fun _ => ?_)) ))
local instance (priority := 2000) stopS_D23b {P : List As} {t1 t2 : TS} {D : Ends} {σ : St} : Stp P (fun H => tSeq t1 t2 D σ H) P (fun H => Sq (tSeq t1 t2 D) σ H) := stop_seq
/-- many lists of values, only read -/
def RvX (qs : List Addr) (vss : List (List V)) : Ty := fun _ => ⟨fun _ h => qs.length = vss.length ∧ ∀ (i : Nat) (q : Addr) (xs : List V), qs[i]? = some q → vss[i]? = some xs → h q = some (.lst xs), fun _ x => x⟩
section
variable {P F G : List As} {v : V} {q : Addr} {qs : List Addr} {vss : List (List V)} {ys : List V} {X : Hp → Prop} {k h : Hp}
theorem satL_rvPush (s : SatL (At (.ref q) (LstX ys) :: At v (RvX qs vss) :: F) k h) : SatL (At v (RvX (qs ++ [q]) (vss ++ [ys])) :: F) k h := by
  obtain ⟨h1, h2, s1, s2, x, ⟨_, eq1, hq⟩, h3, h4, s3, s4, x2, ⟨hl, y⟩, z⟩ := s
  cases eq1
  have x13 := x.sub (Same.refl _) s3
  refine ⟨hor h1 h3, h4, hor_sub s1 (s3.trans s2), s4.trans s2, hor_apart (x.sub (Same.refl _) s4) x2, ⟨by simp [hl], fun j q2 xs2 e1 e2 => ?_⟩, z⟩
  by_cases hj : j < qs.length
  · rw [List.getElem?_append_left hj] at e1
    rw [List.getElem?_append_left (by omega)] at e2
    exact same_hor_r x13 _ _ (y j q2 xs2 e1 e2)
  · rw [List.getElem?_append_right (by omega)] at e1
    rw [List.getElem?_append_right (by omega)] at e2
    have h8 : j - qs.length = 0 := by have := (List.getElem?_eq_some_iff.mp e1).1; simpa using this
    have h9 : j - vss.length = 0 := by omega
    rw [h8] at e1
    rw [h9] at e2
    cases Option.some.inj e1; cases Option.some.inj e2
    exact hor_l hq
theorem e_rvPush [t1 : Take P (.ref q) (LstX ys) F] (t2 : Take F v (RvX qs vss) G) (e : Ent (At v (RvX (qs ++ [q]) (vss ++ [ys])) :: G) X) : Ent P X :=
  e.mono fun k h s => satL_rvPush (SatL.cons t2.tk (t1.tk k h s))
theorem e_rvNil (e : Ent (At v (RvX [] []) :: P) X) : Ent P X := e.mono fun k h s => ⟨hnil, h, same_nil, Same.refl _, apart_nil, ⟨rfl, fun i q xs e => by cases e⟩, s⟩
theorem sees_rv (t : Take P v (RvX qs vss) F) {i : Nat} (hq : qs[i]? = some q) (hv : vss[i]? = some ys) : Sees P q (.lst ys) := ⟨fun H s => by
  obtain ⟨g, h0, s1, s2, ap, hl, y⟩ := s.tell (t := t)
  exact s2 _ _ (y i q ys hq hv)⟩
end
section
variable {P : Program} {w : World} {K : PySem.W.Frag} {mg : Str → Option Value} {base : Heap} {a : Adr}
theorem e_seeRul {Pl F : List As} {p : Addr} {R : Rul} {X : Hp → Prop} [t : Take Pl (.ref p) (RulX R) F] (k : ∀ (la : Addr) (ps : List Addr), ps.length = R.lines.length → Ent (At (.ref la) (KTup (ps.map V.ref)) :: At (.int 16) (PrK ps R.lines) :: At (.ref p) (KTup [.ref la, bV R.boost, .str (chS R.kept)]) :: Pl) X) : Ent Pl X := fun H s => by
  obtain ⟨g, h, s1, s2, x, ra, la, ps, e, r⟩ := s.tell (t := t)
  cases e
  refine k la ps r.len H ?_
  have z1 : Sat (At (.ref p) (KTup [.ref la, bV R.boost, .str (chS R.kept)]) :: Pl) H := s.learn (k2 := tups g) (tups_sub.trans s1) (fun b n => tups_tup n) ⟨_, rfl, tups_of r.rules⟩
  have z2 : Sat (At (.int 16) (PrK ps R.lines) :: At (.ref p) (KTup [.ref la, bV R.boost, .str (chS R.kept)]) :: Pl) H := z1.learn (k2 := tups g) (tups_sub.trans s1) (fun b n => tups_tup n) (fun i q x e1 e2 => by
    have h1 := tups_of (r.pair i q e1)
    obtain ⟨hi, e3⟩ := List.getElem?_eq_some_iff.mp e2
    have hq : R.q i = x.1 ∧ R.s i = x.2 := by
      unfold Rul.q Rul.s
      rw [List.getD_eq_getElem?_getD, e2]
      exact ⟨rfl, rfl⟩
    rw [hq.1, hq.2] at h1
    exact h1)
  exact z2.learn (k2 := tups g) (tups_sub.trans s1) (fun b n => tups_tup n) ⟨_, rfl, tups_of r.lines⟩
/-- a row's parts -/
def vHead (b : Option Int) (kp : Bool) : List V := [.str "rules", (match b with | none => .str "-" | some z => .int z), .str (chS kp)]
def vRow (x : Int × Int) : List V := [.str "line", .int x.1, .int x.2]
def vTask (t : Int × List Int) : List V := .str "task" :: .int t.1 :: t.2.map V.int
def pS : V → Str
  | .str a => a
  | .int i => toString i
  | _ => ""
theorem pS_num {z : Int} (h : 0 ≤ z) : pS (.int z) = numS z.toNat := by
  show (toString z : Str) = Str.ofString (toString ((z.toNat : Nat) : Int))
  rw [Int.toNat_of_nonneg h]
theorem lnAll_pS {R : Rul} {ts : List (Int × List Int)} (ok : R.Ok) (tok : TasksOk ts) : (vHead R.boost R.kept :: R.lines.map vRow ++ ts.map vTask).map (fun vs => vs.map pS) = lnAll R ts := by
  unfold lnAll
  rw [List.cons_append, List.map_cons, List.map_append, List.map_map, List.map_map]
  congr 1
  · unfold vHead lnHead
    cases hb : R.boost with
    | none => rfl
    | some z =>
      have := ok.boosts z hb
      show [_, pS (.int z), _] = _
      rw [pS_num (by omega)]
      rfl
  · congr 1
    · refine List.map_congr_left fun x hx => ?_
      have := ok.each x hx
      show [_, pS (.int x.1), pS (.int x.2)] = _
      rw [pS_num (by omega), pS_num (by omega)]
      rfl
    · refine List.map_congr_left fun x hx => ?_
      obtain ⟨h0, h1, h2, h3, h4⟩ := tok.2 x hx
      show _ :: pS (.int x.1) :: (x.2.map V.int).map pS = _
      rw [pS_num h0, List.map_map]
      unfold lnTask
      congr 2
      refine List.map_congr_left fun y hy => ?_
      exact pS_num (by have := h4 y hy; omega)
theorem rowsV_good {R : Rul} {ts : List (Int × List Int)} (ok : R.Ok) (tok : TasksOk ts) : ∀ vs ∈ vHead R.boost R.kept :: R.lines.map vRow ++ ts.map vTask, ∀ v ∈ vs, (∃ a, v = V.str a) ∨ ∃ i : Int, v = .int i ∧ i.natAbs < 1000 := fun vs hvs v hv => by
  rw [List.cons_append] at hvs
  rcases List.mem_cons.mp hvs with rfl | hvs
  · simp only [vHead, List.mem_cons, List.not_mem_nil, or_false] at hv
    rcases hv with rfl | rfl | rfl
    · exact .inl ⟨_, rfl⟩
    · cases hb : R.boost with
      | none => exact .inl ⟨_, rfl⟩
      | some z => exact .inr ⟨z, rfl, by have := ok.boosts z hb; omega⟩
    · exact .inl ⟨_, rfl⟩
  · rcases List.mem_append.mp hvs with z | z
    · obtain ⟨x, hx, rfl⟩ := List.mem_map.mp z
      have := ok.each x hx
      simp only [vRow, List.mem_cons, List.not_mem_nil, or_false] at hv
      rcases hv with rfl | rfl | rfl
      · exact .inl ⟨_, rfl⟩
      · exact .inr ⟨_, rfl, by omega⟩
      · exact .inr ⟨_, rfl, by omega⟩
    · obtain ⟨x, hx, rfl⟩ := List.mem_map.mp z
      obtain ⟨h0, h1, h2, h3, h4⟩ := tok.2 x hx
      simp only [vTask, List.mem_cons, List.mem_map] at hv
      rcases hv with rfl | rfl | ⟨y, hy, rfl⟩
      · exact .inl ⟨_, rfl⟩
      · exact .inr ⟨_, rfl, by omega⟩
      · exact .inr ⟨_, rfl, by have := h4 y hy; omega⟩
theorem sum_lens {k : Nat} : ∀ {l : List Str}, (∀ w ∈ l, w.length ≤ k) → (l.map (·.length)).sum ≤ l.length * k
  | [], _ => by simp
  | x :: r, h => by
    have h1 := h x List.mem_cons_self
    have h2 := sum_lens (l := r) fun w hw => h w (List.mem_cons_of_mem _ hw)
    rw [List.map_cons, List.sum_cons, List.length_cons, Nat.succ_mul]
    omega
def sp_written (K : PySem.W.Frag) (a : Adr) : Sp := sp2 fun x y H Q _ => ∃ (ra D : Addr) (R : Rul) (qs : List Addr) (ts : List (Int × List Int)) (F : List As), x = .ref ra ∧ y = .ref D ∧ R.Ok ∧ TasksOk ts ∧ qs.length = ts.length ∧ Sees F D (.lst (qs.map V.ref)) ∧ (∀ k h, SatL F k h → TskF qs ts k) ∧
  Sat (At (.ref ra) (RulX R) :: F) H ∧ Ent (At (.ref ra) (RulX R) :: F) (fun H' => Q (.str (textT R ts)) H')
theorem ok_written (T : Txt K mg a) : Cal P w K mg base CX0 4 "written" ["rules", "tasks"] (sp_written K a) := by
  obtain ⟨fd, F, b⟩ := T.f_written
  refine ⟨a.written, fd, F.ok sc_written (fun vs H Q E h => sp2_len h) (fun cdv A outer s H vs Q E hr h => ?_), T.g_written, F.kp, b⟩
  refine ⟨_, (pss_cons (ps_expr (q_call (ok_need_rules T) (hr.mono (by decide)) pass0 (pa_cons (pv 0) pa_nil)))
 (pss_cons (ps_expr (q_call (ok_need_tasks T) (hr.mono (by decide)) pass0 (pa_cons (pv 1) pa_nil)))
 (pss_cons (ps_asg (pv 0) (pg_tup (n := 3) rfl (pgs_cons (pg_name (i := 2) sc_written.nd rfl (Or.inl rfl)) (pgs_cons (pg_name (i := 3) sc_written.nd rfl (Or.inl rfl)) (pgs_cons (pg_name (i := 4) sc_written.nd rfl (Or.inl rfl)) pgs_nil)))))
 (pss_cons (ps_set (i := 5) sc_written.nd rfl (Or.inl rfl) (pe_lst (pa_cons (pe_lst (pa_cons (q_cS T.g_RULES) (pa_cons (pe_ifExp (pt_cmpR op_isN1 (pv 3) pe_non (nomark _)) (q_cS T.g_NONE) (pv 3)) (pa_cons (pv 4) pa_nil)))) pa_nil)))
 (pss_cons (ps_aug (i := 5) sc_written.nd rfl (Or.inl rfl) (pe_lc (own := [("quantum", 6), ("share", 7)]) (g := (gTup K 2 (gCons (gName 6) (gCons (gName 7) gNil)))) (tt := tYes) (te := (tLst (tCons (tC (V.str "line")) (tCons (tVar 6) (tCons (tVar 7) tNil))))) rfl sc_written.nd (pi_tup (pv 2)) (blkOk_by (N := N_written) (sc := (defScope s_written)) (by decide +kernel)) (fun _ _ _ _ _ => (pg_tup (n := 2) rfl (pgs_cons (pg_name (i := 6) sc_written.nd rfl (Or.inl rfl)) (pgs_cons (pg_name (i := 7) sc_written.nd rfl (Or.inl rfl)) pgs_nil)))) (fun _ _ _ _ _ => pts_nil) (fun _ _ _ _ _ => (pe_lst (pa_cons (q_cS T.g_ROW) (pa_cons (pv 6) (pa_cons (pv 7) pa_nil)))))) ip_ext)
 (pss_cons (ps_aug (i := 5) sc_written.nd rfl (Or.inl rfl) (pe_lc (own := [("moment", 8), ("bursts", 9)]) (g := (gTup K 2 (gCons (gName 8) (gCons (gName 9) gNil)))) (tt := tYes) (te := (tOp rCat (tLst (tCons (tC (V.str "task")) (tCons (tVar 8) tNil))) (tCB (cLst K) (tCons (tVar 9) tNil)))) rfl sc_written.nd (pi_list (pv 1)) (blkOk_by (N := N_written) (sc := (defScope s_written)) (by decide +kernel)) (fun _ _ _ _ _ => (pg_tup (n := 2) rfl (pgs_cons (pg_name (i := 8) sc_written.nd rfl (Or.inl rfl)) (pgs_cons (pg_name (i := 9) sc_written.nd rfl (Or.inl rfl)) pgs_nil)))) (fun _ _ _ _ _ => pts_nil) (fun _ _ _ _ _ => (pe_op op_cat (pe_lst (pa_cons (q_cS T.g_TASK) (pa_cons (pv 8) pa_nil))) (pe_callTy qr_list (by rfl) T.z_list (by decide +kernel) (pa_cons (pv 9) pa_nil))))) ip_ext)
 (pss_one (ps_ret (qe_join (q_cS T.g_LINE) (pe_lc (own := [("row", 10)]) (g := (gName 10)) (tt := tYes) (te := (tM1 (rJoin K) (tC (V.str " ")) (tLc (iList K (tVar 10)) (gName 11) tYes (tCB cStr (tCons (tVar 11) tNil)) (List.map (fun x => x.2) ([("part", 11)] : List (Str × Nat)))))) rfl sc_written.nd (pi_list (pv 5)) (blkOk_by (N := N_written) (sc := (defScope s_written)) (by decide +kernel)) (fun _ _ _ _ _ => (pg_name (i := 10) sc_written.nd rfl (Or.inl rfl))) (fun _ _ _ _ _ => pts_nil) (fun _ _ _ _ _ => (qe_join pe_str (pe_lc (own := [("part", 11)]) (g := (gName 11)) (tt := tYes) (te := (tCB cStr (tCons (tVar 11) tNil))) rfl sc_written.nd (pi_list (pv 10)) (blkOk_by (N := N_written) (sc := (⟨.function, [(".0", .local), ("row", .local)], false, false, []⟩ : Scope)) (scope := (⟨.function, [(".0", .local), ("part", .local), ("str", .globalImplicit)], false, false, []⟩ : Scope)) (own := [("part", 11)]) (by decide +kernel)) (fun _ _ _ _ _ => (pg_name (i := 11) sc_written.nd rfl (Or.inl rfl))) (fun _ _ _ _ _ => pts_nil) (fun _ _ _ _ _ => (pe_callTy cr_str (by rfl) T.z_str (by decide +kernel) (pa_cons (pv 11) pa_nil)))))))))))))))), ?_⟩
  try dsimp only [cxOf, Cx.nox, Cx.wish, List.map_cons, List.map_nil]
  obtain ⟨x, y, rfl, h⟩ := h
  rw [show L2.start N_written [x, y] = [some x, some y, none, none, none, none, none, none, none, none, none, none] from rfl]
  obtain ⟨ra, D, R, qs, ts, F, rfl, rfl, ok, tok, hl, sd, tf, s, k⟩ := h
  refine Ent.at s ?_
  clear s
  haveI : Sees F D (.lst (qs.map V.ref)) := sd
  fail "egs"
  refine e_needRules (R := R) ok ?_
  fail "egs"
  refine e_needTasks (qs := qs) (ts := ts) (fun k h s => tf k h s.tail) hl tok ?_
  fail "egs"
  refine e_seeRul (p := ra) (R := R) fun la ps hps => ?_
  fail "eg"
  refine Ent.to (Q := At (.ref la) (KTup (ps.map V.ref)) :: At (.int 16) (PrK ps R.lines) :: At (.ref ra) (RulX R) :: F) ?_
  fail "eg"
  refine e_cutS (fun σ P' => ∃ A0 D1, σ = [some (.ref ra), some (.ref D), some (.ref la), some (bV R.boost), some (.str (chS R.kept)), some (.ref D1), none, none, none, none, none, none] ∧ P' = At (.ref D1) (LstX [.ref A0]) :: At (.ref A0) (LstX (vHead R.boost R.kept)) :: At (.ref la) (KTup (ps.map V.ref)) :: At (.int 16) (PrK ps R.lines) :: At (.ref ra) (RulX R) :: F) ?_ ?_
  · rintro σ P' ⟨A0, D1, rfl, rfl⟩
    fail "egs"
    refine e_rvNil (v := .int 17) ?_
    refine e_rvPush (q := A0) (ys := vHead R.boost R.kept) (v := .int 17) inferInstance ?_
    rw [show ([] : List Addr) ++ [A0] = [A0] from rfl, show ([] : List (List V)) ++ [vHead R.boost R.kept] = vHead R.boost R.kept :: (R.lines.take 0).map vRow from rfl]
    refine Ent.to (Q := At (.int 17) (RvX (A0 :: []) (vHead R.boost R.kept :: (R.lines.take 0).map vRow)) :: At (.ref D1) (LstX [.ref A0]) :: At (.ref la) (KTup (ps.map V.ref)) :: At (.int 16) (PrK ps R.lines) :: At (.ref ra) (RulX R) :: F) ?_
    refine e_lcT (σ0 := [some (.ref ra), some (.ref D), some (.ref la), some (bV R.boost), some (.str (chS R.kept)), some (.ref D1), none, none, none, none, none, none]) (ps.map V.ref) rfl
      (fun i acc P' => ∃ as : List Addr, acc = as.map V.ref ∧ as.length = i ∧ P' = At (.int 17) (RvX (A0 :: as) (vHead R.boost R.kept :: (R.lines.take i).map vRow)) :: At (.ref D1) (LstX [.ref A0]) :: At (.ref la) (KTup (ps.map V.ref)) :: At (.int 16) (PrK ps R.lines) :: At (.ref ra) (RulX R) :: F) ⟨[], rfl, rfl, rfl⟩ ?_ ?_ ?_
    · rintro i acc P' ⟨as, _, _, rfl⟩ H s
      have : Sees (At (.int 17) (RvX (A0 :: as) (vHead R.boost R.kept :: (R.lines.take i).map vRow)) :: At (.ref D1) (LstX [.ref A0]) :: At (.ref la) (KTup (ps.map V.ref)) :: At (.int 16) (PrK ps R.lines) :: At (.ref ra) (RulX R) :: F) la (.tup (ps.map V.ref)) := inferInstance
      exact this.sees H s
    · rintro D2 i x acc P' hx ⟨as, rfl, has, rfl⟩
      rw [List.getElem?_map] at hx
      obtain ⟨p, hp, rfl⟩ := Option.map_eq_some_iff.mp hx
      have hi : i < R.lines.length := by have := (List.getElem?_eq_some_iff.mp hp).1; omega
      have hxl : R.lines[i]? = some R.lines[i] := List.getElem?_eq_getElem hi
      have h2 : (R.lines.take (i + 1)).map vRow = (R.lines.take i).map vRow ++ [vRow R.lines[i]] := by rw [List.take_succ, hxl, List.map_append]; rfl
      generalize R.lines[i] = xl at hxl h2
      refine e_kel p (.tup [.int xl.1, .int xl.2]) (fun k h s => (kn_of (φ := PrF ps R.lines) (m := PrF.mono) (v := .int 16) inferInstance s : PrF ps R.lines k) i p xl hp hxl) ?_
      fail "egs"
      refine e_and rfl ?_
      fail "egs"
      refine e_lst (by simp) fun An => ?_
      refine e_rvPush (q := An) (ys := vRow xl) (v := .int 17) inferInstance ?_
      rw [List.cons_append, List.cons_append, ← h2]
      have h4 := ok.four
      exact e_pu (a := D2) (At (.int 17) (RvX (A0 :: (as ++ [An])) (vHead R.boost R.kept :: (R.lines.take (i + 1)).map vRow)) :: At (.ref D1) (LstX [.ref A0]) :: At (.ref la) (KTup (ps.map V.ref)) :: At (.int 16) (PrK ps R.lines) :: At (.ref ra) (RulX R) :: F) inferInstance (by rw [List.length_map]; omega) ⟨as ++ [An], by rw [List.map_append]; rfl, by simp [has], rfl⟩
    · rintro D3 acc P' ⟨as, rfl, has, rfl⟩
      rw [List.length_map] at has
      rw [List.length_map, hps, List.take_length]
      fail "egs"
      have h4 := ok.four
      have h12 := tok.1
      refine e_ext2 (by simp; omega) ?_
      rw [show [V.ref A0] ++ as.map V.ref = (A0 :: as).map V.ref from rfl]
      have hrs : (A0 :: as).length = 1 + R.lines.length := by simp; omega
      have hv0 : (vHead R.boost R.kept :: R.lines.map vRow).length = 1 + R.lines.length := by simp; omega
      have hall : (vHead R.boost R.kept :: R.lines.map vRow ++ ts.map vTask).map (fun vs => vs.map pS) = lnAll R ts := lnAll_pS ok tok
      have hgv := rowsV_good ok tok
      generalize A0 :: as = rs at hrs ⊢
      generalize vHead R.boost R.kept :: R.lines.map vRow = vs0 at hv0 hall hgv ⊢
      refine Ent.to (Q := At (.int 17) (RvX rs vs0) :: At (.ref D1) (LstX (rs.map V.ref)) :: At (.ref ra) (RulX R) :: F) ?_
      rw [show RvX rs vs0 = RvX (rs ++ []) (vs0 ++ (ts.take 0).map vTask) by rw [List.append_nil]; simp]
      fail "egs"
      refine e_lcL (σ0 := [some (.ref ra), some (.ref D), some (.ref la), some (bV R.boost), some (.str (chS R.kept)), some (.ref D1), none, none, none, none, none, none]) (qs.map V.ref) rfl
        (fun i acc P' => ∃ bs : List Addr, acc = bs.map V.ref ∧ bs.length = i ∧ P' = At (.int 17) (RvX (rs ++ bs) (vs0 ++ (ts.take i).map vTask)) :: At (.ref D1) (LstX (rs.map V.ref)) :: At (.ref ra) (RulX R) :: F) ⟨[], rfl, rfl, rfl⟩ ?_ ?_ ?_
      · rintro i acc P' ⟨bs, _, _, rfl⟩ H s
        exact sd.sees H (s.imp fun _ _ z => z.tail.tail.tail)
      · rintro D2 i x acc P' hx ⟨bs, rfl, hbs, rfl⟩
        rw [List.getElem?_map] at hx
        obtain ⟨tq, hq, rfl⟩ := Option.map_eq_some_iff.mp hx
        have hi : i < ts.length := by have := (List.getElem?_eq_some_iff.mp hq).1; omega
        have ht : ts[i]? = some (ts[i].1, ts[i].2) := List.getElem?_eq_getElem hi
        have h2 : (ts.take (i + 1)).map vTask = (ts.take i).map vTask ++ [vTask ts[i]] := by rw [List.take_succ, List.getElem?_eq_getElem hi, List.map_append]; rfl
        obtain ⟨_, _, _, b9, _⟩ := tok.2 ts[i] (List.getElem_mem hi)
        generalize ts[i] = tm at ht h2 b9
        refine e_tsk (fun k h s => tf k h s.tail.tail.tail.tail) hq ht fun bA => ?_
        fail "egs"
        refine e_and rfl ?_
        fail "egs"
        refine e_lst (by simp) fun l1 => ?_
        fail "egs"
        refine e_listT fun l2 => ?_
        fail "egs"
        refine e_cat (by simp; omega) fun l3 => ?_
        rw [show [V.str (Str.ofString "task"), V.int tm.1] ++ tm.2.map V.int = vTask tm from rfl]
        refine e_rvPush (q := l3) (ys := vTask tm) (v := .int 17) inferInstance ?_
        rw [List.append_assoc, List.append_assoc, ← h2]
        exact e_pu (a := D2) (At (.int 17) (RvX (rs ++ (bs ++ [l3])) (vs0 ++ (ts.take (i + 1)).map vTask)) :: At (.ref D1) (LstX (rs.map V.ref)) :: At (.ref ra) (RulX R) :: F) inferInstance (by rw [List.length_map]; omega) ⟨bs ++ [l3], by rw [List.map_append]; rfl, by simp [hbs], rfl⟩
      · rintro D4 acc P' ⟨bs, rfl, hbs, rfl⟩
        rw [List.length_map] at hbs
        rw [List.length_map, hl, List.take_length]
        fail "egs"
        refine e_ext2 (by simp; omega) ?_
        rw [← List.map_append]
        have hrl : (rs ++ bs).length = (vs0 ++ ts.map vTask).length := by simp; omega
        generalize rs ++ bs = rows at hrl ⊢
        generalize vs0 ++ ts.map vTask = vss at hall hrl hgv ⊢
        refine Ent.to (Q := At (.ref D1) (LstX (rows.map V.ref)) :: At (.int 17) (RvX rows vss) :: At (.ref ra) (RulX R) :: F) ?_
        fail "egs"
        have hgood : ∀ vs ∈ vss, vs.map pS ∈ lnAll R ts := fun vs hv => by rw [← hall]; exact List.mem_map.mpr ⟨vs, hv, rfl⟩
        have hvl : vss.length ≤ 17 := by
          have := congrArg List.length hall
          rw [List.length_map] at this
          rw [this]
          unfold lnAll; simp; omega
        refine e_lcG vss (fun vs => some (V.str (Txt.join " " (vs.map pS)))) inferInstance (by rw [List.length_map]; exact hrl) (fun D5 i x vs hx hvs => ?_) fun D5 => ?_
        · rw [List.getElem?_map] at hx
          obtain ⟨q, hq, rfl⟩ := Option.map_eq_some_iff.mp hx
          obtain ⟨w1, w2, w3⟩ := lnAll_wrd (RulN.of ok) tok _ (hgood vs (List.mem_of_getElem? hvs))
          rw [List.length_map] at w2
          haveI : Sees (At (.ref D5) (LstX ((vss.take i).filterMap fun vs => some (V.str (Txt.join " " (vs.map pS))))) :: At (.ref D1) (LstX (rows.map V.ref)) :: At (.int 17) (RvX rows vss) :: At (.ref ra) (RulX R) :: F) q (.lst vs) := sees_rv (v := .int 17) inferInstance hq hvs
          fail "egs"
          refine e_and rfl ?_
          fail "egs"
          have hgx := hgv vs (List.mem_of_getElem? hvs)
          refine e_lcG vs (fun v => some (V.str (pS v))) inferInstance rfl (fun D6 j y v hy hv => ?_) fun D6 => ?_
          · rw [hv] at hy
            have hyv := Option.some.inj hy
            rw [← hyv]
            have hg := hgx v (List.mem_of_getElem? hv)
            fail "egs"
            refine e_and rfl ?_
            fail "egs"
            rcases hg with ⟨a0, rfl⟩ | ⟨i0, rfl, hi0⟩
            · refine e_strS ?_
              refine e_some (f := fun v => some (V.str (pS v))) (y := V.str a0) (u := .str a0) hv rfl (by omega) ?_
              infer_instance
            · refine e_strI (Nat.lt_of_le_of_lt (Nat.log2_le_self _) (by omega)) ?_
              refine e_some (f := fun v => some (V.str (pS v))) (y := V.str (toString i0)) (u := .int i0) hv rfl (by omega) ?_
              infer_instance
          rw [show vs.filterMap (fun v => some (V.str (pS v))) = (vs.map pS).map V.str by rw [List.map_map]; exact fm_someT]
          fail "egs"
          have hsl := sum_lens (l := vs.map pS) (k := 5) fun w hw => (w3 w hw).2.2
          rw [List.length_map] at hsl
          refine e_join (ys := vs.map pS) (by rw [List.length_map, show (Str.ofString " ").length = 1 from rfl]; omega) ?_
          refine e_some (f := fun vs => some (V.str (Txt.join " " (vs.map pS)))) (y := V.str (Txt.join " " (vs.map pS))) (u := vs) hvs rfl (by omega) ?_
          infer_instance
        have hrw : vss.filterMap (fun vs => some (V.str (Txt.join " " (vs.map pS)))) = (rowsT R ts).map V.str := by
          unfold rowsT
          rw [← hall, List.map_map, List.map_map]
          exact fm_someT
        rw [hrw]
        fail "egs"
        have hsl := sum_lens (l := rowsT R ts) (k := 66) (row_len (RulN.of ok) tok)
        have hrl2 := rows_len (R := R) (ts := ts)
        refine e_join (ys := rowsT R ts) (by rw [show (Str.ofString "\n").length = 1 from rfl]; omega) ?_
        refine Ent.to (Q := At (.ref ra) (RulX R) :: F) ?_
        fail "egs"
        exact k
  · intro N hN
    fail "egs"
    refine e_ifD (fun hz => ?_) (fun hz => ?_)
    · have hb : R.boost = none := by cases h : R.boost with
        | none => rfl
        | some z => rw [h] at hz; cases hz
      have hvh : vHead R.boost R.kept = [.str "rules", .str "-", .str (chS R.kept)] := by rw [hb]; rfl
      fail "egs"
      refine e_lst (by simp) fun A0 => ?_
      rw [← hvh]
      fail "egs"
      refine e_lst (by simp) fun D1 => ?_
      fail "egs"
      exact (hN _ _ ⟨A0, D1, rfl, rfl⟩).to
    · have hvh : vHead R.boost R.kept = [.str "rules", bV R.boost, .str (chS R.kept)] := by
        cases h : R.boost with
        | none => rw [h] at hz; exact absurd rfl hz
        | some z => rfl
      fail "egs"
      refine e_lst (by simp) fun A0 => ?_
      rw [← hvh]
      fail "egs"
      refine e_lst (by simp) fun D1 => ?_
      fail "egs"
      exact (hN _ _ ⟨A0, D1, rfl, rfl⟩).to
theorem e_written {Pl F : List As} {ra D : Addr} {R : Rul} {qs : List Addr} {ts : List (Int × List Int)} {Q : VK} {E : XK} [t : Take Pl (.ref ra) (RulX R) F] [sd : Sees F D (.lst (qs.map V.ref))] (tf : ∀ k h, SatL F k h → TskF qs ts k) (hl : qs.length = ts.length) (ok : R.Ok) (tok : TasksOk ts)
    (k : Ent (At (.ref ra) (RulX R) :: F) (fun H' => Q (.str (textT R ts)) H')) : Ent Pl (fun H => sp_written K a [.ref ra, .ref D] H Q E) := fun H s => sp2_mk ⟨ra, D, R, qs, ts, F, rfl, rfl, ok, tok, hl, sd, tf, s.imp t.tk, k⟩
end
end Qn

/-! D13: the law's own text of rules and tasks. -/
namespace Qn
open PySem L2
local macro_rules | `(tactic| fail "ne") => `(tactic| first | assumption | (apply Ne.symm; assumption) | (apply ne_of_none; assumption; assumption) | (apply Ne.symm; apply ne_of_none; assumption; assumption) | (apply ne_of; assumption; assumption; (intro z; cases z)))
local macro_rules | `(tactic| fail "hp") => `(tactic| with_reducible first | assumption | apply upd_same | (apply upd_old; rotate_left; assumption; fail "hp") | (apply upd_oth; rotate_left; fail "ne"; fail "hp"))
local macro_rules | `(tactic| fail "sl") => `(tactic| with_reducible first | assumption | (apply SqL.of; fail "hp"))
local macro_rules | `(tactic| fail "st") => `(tactic| with_reducible first | assumption | (apply SqT.of; fail "hp"))
local macro_rules | `(tactic| fail "tx") => `(tactic| with_reducible first | assumption | (apply Txt.c_Reader; assumption) | (apply Txt.n_Reader_head; assumption) | (apply Txt.n_Reader_read_lines; assumption) | (apply Txt.n_Reader_read_tasks; assumption))
local macro_rules | `(tactic| fail "lk") => `(tactic| with_reducible first | assumption | apply lk_LF_rules | apply lk_LF_cards | apply lk_LF_rows | apply lk_LF_time | apply lk_CF_line | apply lk_CF_quantum | apply lk_CF_share | apply lk_CF_is_ready | apply lk_CF_spent | (apply lk_LF_no; decide +kernel; decide +kernel; decide +kernel; decide +kernel))
local macro_rules | `(tactic| fail "at") => `(tactic| with_reducible first | assumption | apply mc_0 | apply mc_1 | apply mc_2 | apply mc_3 | apply mc_4 | apply at_0 | apply at_1 | apply at_2 | apply at_3 | apply at_4 | (apply atI_nat; assumption) | (apply at_z; assumption))
local macro_rules | `(tactic| fail "go") => `(tactic| repeat (first
  | apply rd_step
  | with_reducible (first
    | (apply r_kFld; fail "hp"; fail "tx"; fail "tx"; fail "lk")
    | (apply r_ixL; fail "sl"; fail "at") | (apply r_ixT; fail "st"; fail "at")
    | (apply r_kMeth; fail "hp"; fail "lk") | (apply r_kBML; fail "sl")
    | (apply r_lenL; fail "sl") | (apply r_lenT; fail "st") | (apply r_lenD; fail "hp")
    | (apply r_kDGetI; fail "hp"; (first | assumption | rfl)) | (apply r_kDGetS; fail "hp"; (first | assumption | apply mv_rules | apply mv_rows | apply mv_cards | apply mv_now)) | (apply r_kDInI; fail "hp") | (apply r_kDNotInI; fail "hp")
    | (apply r_kAugF; fail "hp"; fail "tx"; fail "tx"; fail "lk")
    | (apply r_isi_tuple_tuple; fail "st") | (apply r_isi_list_tuple; fail "sl") | (apply r_isi_list_list; fail "sl") | (apply r_isi_tuple_list; fail "st")
    | (apply r_kUnT; fail "st"; with_unfolding_all rfl) | (apply r_kIL; fail "sl") | (apply r_kIT; fail "st") | (apply r_kIE; fail "st") )))
local macro_rules | `(tactic| fail "eg") => `(tactic| repeat (first
  | apply stp
  | (refine e_rul0 (fun _ => ?_))

  | (refine e_tup0 (fun _ => ?_)) ))
local macro_rules | `(tactic| fail "egs") => `(tactic| (try (with_reducible refine e_seq ?_)) <;> repeat (first
  | apply stp
  | (with_reducible refine e_seq ?_)
  | (refine e_rul0 (fun _ => ?_))

  | (refine e_tup0 (fun _ => ?_)) ))

local instance (priority := 2000) stopS_D13 {P : List As} {t1 t2 : TS} {D : Ends} {σ : St} : Stp P (fun H => tSeq t1 t2 D σ H) P (fun H => Sq (tSeq t1 t2 D) σ H) := stop_seq
section
variable {P : Program} {w : World} {K : PySem.W.Frag} {mg : Str → Option Value} {base : Heap} {a : Adr}
theorem str_lenA {a b : Str} : (a ++ b).length = a.length + b.length := by rw [TL.len_tl, TL.tl_append, List.length_append, ← TL.len_tl, ← TL.len_tl]
theorem rows0 {R : Rul} {ts : List (Int × List Int)} : ((lnHead R.boost R.kept :: (R.lines.map lnRow ++ (ts.take 0).map lnTask)).map (Txt.join " ")).map V.str = [V.str (Txt.join " " (lnHead R.boost R.kept))] ++ R.lines.map (fun x => V.str (Txt.join " " (lnRow x))) := by
  rw [List.take_zero, List.map_nil, List.append_nil, List.map_cons, List.map_cons, List.map_map, List.map_map]
  rfl
theorem sz1 {n : Nat} (h : n ≤ 1000) : n ≤ sizeLine := Nat.le_trans h (by decide)
theorem strI_num {z : Int} (h : 0 ≤ z) : (toString z : Str) = numS z.toNat := pS_num h
def sp_law_text (K : PySem.W.Frag) (a : Adr) : Sp := sp2 fun x y H Q _ => ∃ (ra D : Addr) (R : Rul) (qs : List Addr) (ts : List (Int × List Int)) (F : List As), x = .ref ra ∧ y = .ref D ∧ R.Ok ∧ TasksOk ts ∧ qs.length = ts.length ∧ Sees F D (.lst (qs.map V.ref)) ∧ (∀ k h, SatL F k h → TskF qs ts k) ∧
  Sat (At (.ref ra) (RulX R) :: F) H ∧ Ent (At (.ref ra) (RulX R) :: F) (fun H' => Q (.str (textT R ts)) H')
theorem ok_law_text (T : Txt K mg a) : Cal P w K mg base CX0 1 "_law_text" ["_law_rules_here", "_law_tasks_here"] (sp_law_text K a) := by
  obtain ⟨fd, F, b⟩ := T.f_law_text
  refine ⟨a.law_text, fd, F.ok sc_law_text (fun vs H Q E h => sp2_len h) (fun cdv A outer s H vs Q E hr h => ?_), T.g_law_text, F.kp, b⟩
  refine ⟨_, (pss_cons (ps_asg (pv 0) (pg_tup (n := 3) rfl (pgs_cons (pg_name (i := 2) sc_law_text.nd rfl (Or.inl rfl)) (pgs_cons (pg_name (i := 3) sc_law_text.nd rfl (Or.inl rfl)) (pgs_cons (pg_name (i := 4) sc_law_text.nd rfl (Or.inl rfl)) pgs_nil)))))
 (pss_cons (ps_set (i := 5) sc_law_text.nd rfl (Or.inl rfl) (pe_lst (pa_cons (pe_op qo_addS (pe_op qo_addS (pe_op qo_addS pe_str (pe_ifExp (pt_cmpR op_isN1 (pv 3) pe_non (nomark _)) pe_str (pe_callTy cr_str (by rfl) T.z_str (by decide +kernel) (pa_cons (pv 3) pa_nil)))) pe_str) (pv 4)) pa_nil)))
 (pss_cons (ps_set (i := 5) sc_law_text.nd rfl (Or.inl rfl) (pe_op op_cat (pv 5) (pe_lc (own := [("_law_quantum", 8), ("_law_share", 9)]) (g := (gTup K 2 (gCons (gName 8) (gCons (gName 9) gNil)))) (tt := tYes) (te := (tOp oAddS (tOp oAddS (tOp oAddS (tC (V.str "line ")) (tCB cStr (tCons (tVar 8) tNil))) (tC (V.str " "))) (tCB cStr (tCons (tVar 9) tNil)))) rfl sc_law_text.nd (pi_tup (pv 2)) (blkOk_by (N := N_law_text) (sc := (defScope s_law_text)) (by decide +kernel)) (fun _ _ _ _ _ => (pg_tup (n := 2) rfl (pgs_cons (pg_name (i := 8) sc_law_text.nd rfl (Or.inl rfl)) (pgs_cons (pg_name (i := 9) sc_law_text.nd rfl (Or.inl rfl)) pgs_nil)))) (fun _ _ _ _ _ => pts_nil) (fun _ _ _ _ _ => (pe_op qo_addS (pe_op qo_addS (pe_op qo_addS pe_str (pe_callTy cr_str (by rfl) T.z_str (by decide +kernel) (pa_cons (pv 8) pa_nil))) pe_str) (pe_callTy cr_str (by rfl) T.z_str (by decide +kernel) (pa_cons (pv 9) pa_nil)))))))
 (pss_cons (ps_for PassesOwn.never rfl (pi_list (pv 1)) (pg_tup (n := 2) rfl (pgs_cons (pg_name (i := 6) sc_law_text.nd rfl (Or.inl rfl)) (pgs_cons (pg_name (i := 7) sc_law_text.nd rfl (Or.inl rfl)) pgs_nil)))
 (pss_one (ps_expr (pe_bm PySem.F.plainAttrs_list PySem.F.slot_list_append PySem.F.type_list_append mt_append (pv 5) (pa_cons (pe_op qo_addS (pe_op qo_addS pe_str (pe_callTy cr_str (by rfl) T.z_str (by decide +kernel) (pa_cons (pv 6) pa_nil))) (qe_join pe_str (pe_lc (own := [("_law_burst", 10)]) (g := (gName 10)) (tt := tYes) (te := (tOp oAddS (tC (V.str " ")) (tCB cStr (tCons (tVar 10) tNil)))) rfl sc_law_text.nd (pi_tup (pv 7)) (blkOk_by (N := N_law_text) (sc := (defScope s_law_text)) (by decide +kernel)) (fun _ _ _ _ _ => (pg_name (i := 10) sc_law_text.nd rfl (Or.inl rfl))) (fun _ _ _ _ _ => pts_nil) (fun _ _ _ _ _ => (pe_op qo_addS pe_str (pe_callTy cr_str (by rfl) T.z_str (by decide +kernel) (pa_cons (pv 10) pa_nil))))))) pa_nil)))))
 (pss_one (ps_ret (qe_join pe_str (pv 5)))))))), ?_⟩
  try dsimp only [cxOf, Cx.nox, Cx.wish, List.map_cons, List.map_nil]
  obtain ⟨x, y, rfl, h⟩ := h
  rw [show L2.start N_law_text [x, y] = [some x, some y, none, none, none, none, none, none, none, none, none] from rfl]
  obtain ⟨ra, D, R, qs, ts, F, rfl, rfl, ok, tok, hl, sd, tf, s, k⟩ := h
  refine Ent.at s ?_
  clear s
  haveI : Sees F D (.lst (qs.map V.ref)) := sd
  refine e_seeRul (p := ra) (R := R) fun la ps hps => ?_
  fail "eg"
  refine e_seq ?_
  fail "eg"
  refine Ent.to (Q := At (.ref la) (KTup (ps.map V.ref)) :: At (.int 16) (PrK ps R.lines) :: At (.ref ra) (RulX R) :: F) ?_
  refine e_cutS (fun σ P' => ∃ D1, σ = [some (.ref ra), some (.ref D), some (.ref la), some (bV R.boost), some (.str (chS R.kept)), some (.ref D1), none, none, none, none, none] ∧ P' = At (.ref D1) (LstX [.str (Txt.join " " (lnHead R.boost R.kept))]) :: At (.ref la) (KTup (ps.map V.ref)) :: At (.int 16) (PrK ps R.lines) :: At (.ref ra) (RulX R) :: F) ?_ ?_
  · rintro σ P' ⟨D1, rfl, rfl⟩
    fail "egs"
    refine e_lcT (σ0 := [some (.ref ra), some (.ref D), some (.ref la), some (bV R.boost), some (.str (chS R.kept)), some (.ref D1), none, none, none, none, none]) (ps.map V.ref) rfl
      (fun i acc P' => acc = (R.lines.take i).map (fun x => V.str (Txt.join " " (lnRow x))) ∧ P' = At (.ref D1) (LstX [.str (Txt.join " " (lnHead R.boost R.kept))]) :: At (.ref la) (KTup (ps.map V.ref)) :: At (.int 16) (PrK ps R.lines) :: At (.ref ra) (RulX R) :: F) ⟨rfl, rfl⟩ ?_ ?_ ?_
    · rintro i acc P' ⟨_, rfl⟩ H s
      have : Sees (At (.ref D1) (LstX [.str (Txt.join " " (lnHead R.boost R.kept))]) :: At (.ref la) (KTup (ps.map V.ref)) :: At (.int 16) (PrK ps R.lines) :: At (.ref ra) (RulX R) :: F) la (.tup (ps.map V.ref)) := inferInstance
      exact this.sees H s
    · rintro D2 i x acc P' hx ⟨rfl, rfl⟩
      rw [List.getElem?_map] at hx
      obtain ⟨p, hp, rfl⟩ := Option.map_eq_some_iff.mp hx
      have hi : i < R.lines.length := by have := (List.getElem?_eq_some_iff.mp hp).1; omega
      have hxl : R.lines[i]? = some R.lines[i] := List.getElem?_eq_getElem hi
      have h2 : (R.lines.take (i + 1)).map (fun x => V.str (Txt.join " " (lnRow x))) = (R.lines.take i).map (fun x => V.str (Txt.join " " (lnRow x))) ++ [V.str (Txt.join " " (lnRow R.lines[i]))] := by rw [List.take_succ, hxl, List.map_append]; rfl
      have hx8 := ok.each _ (List.getElem_mem hi)
      generalize R.lines[i] = xl at hxl h2 hx8
      refine e_kel p (.tup [.int xl.1, .int xl.2]) (fun k h s => (kn_of (φ := PrF ps R.lines) (m := PrF.mono) (v := .int 16) inferInstance s : PrF ps R.lines k) i p xl hp hxl) ?_
      fail "egs"
      refine e_and rfl ?_
      fail "egs"
      have s1 : (Str.ofString "line ").length = 5 := rfl
      have s2 : (Str.ofString " ").length = 1 := rfl
      have l1 := numS_len (n := xl.1.toNat) (by omega)
      have l2 := numS_len (n := xl.2.toNat) (by omega)
      refine e_strI (Nat.lt_of_le_of_lt (Nat.log2_le_self _) (by omega)) ?_
      rw [strI_num (by omega)]
      refine e_addS (sz1 (by omega)) ?_
      fail "egs"
      refine e_addS (sz1 (by rw [str_lenA]; omega)) ?_
      fail "egs"
      refine e_strI (Nat.lt_of_le_of_lt (Nat.log2_le_self _) (by omega)) ?_
      rw [strI_num (by omega)]
      refine e_addS (sz1 (by rw [str_lenA, str_lenA]; omega)) ?_
      rw [rowT]
      have h4 := ok.four
      exact e_pu (a := D2) (At (.ref D1) (LstX [.str (Txt.join " " (lnHead R.boost R.kept))]) :: At (.ref la) (KTup (ps.map V.ref)) :: At (.int 16) (PrK ps R.lines) :: At (.ref ra) (RulX R) :: F) inferInstance (by rw [List.length_map, List.length_take]; omega) ⟨h2.symm, rfl⟩
    · rintro D3 acc P' ⟨rfl, rfl⟩
      rw [List.length_map, hps, List.take_length]
      fail "egs"
      have h4 := ok.four
      have h12 := tok.1
      refine e_cat (by simp; omega) fun D4 => ?_
      fail "egs"
      refine Ent.to (Q := At (.ref D4) (LstX (((lnHead R.boost R.kept :: (R.lines.map lnRow ++ (ts.take 0).map lnTask)).map (Txt.join " ")).map V.str)) :: At (.ref ra) (RulX R) :: F) (i := ?_) ?_
      · rw [show ((lnHead R.boost R.kept :: (R.lines.map lnRow ++ (ts.take 0).map lnTask)).map (Txt.join " ")).map V.str = [V.str (Txt.join " " (lnHead R.boost R.kept))] ++ R.lines.map (fun x => V.str (Txt.join " " (lnRow x))) from rows0]
        infer_instance
      refine e_forL (qs.map V.ref) (fun i σ P' => ∃ v6 v7, σ = [some (.ref ra), some (.ref D), some (.ref la), some (bV R.boost), some (.str (chS R.kept)), some (.ref D4), v6, v7, none, none, none] ∧
        P' = At (.ref D4) (LstX (((lnHead R.boost R.kept :: (R.lines.map lnRow ++ (ts.take i).map lnTask)).map (Txt.join " ")).map V.str)) :: At (.ref ra) (RulX R) :: F) ⟨_, _, rfl, rfl⟩ ?_ ?_ ?_
      · rintro i σ P' ⟨v6, v7, rfl, rfl⟩ H s
        exact sd.sees H (s.imp fun _ _ z => z.tail.tail)
      · rintro i x σ P' hx ⟨v6, v7, rfl, rfl⟩
        rw [List.getElem?_map] at hx
        obtain ⟨tq, hq, rfl⟩ := Option.map_eq_some_iff.mp hx
        have hi : i < ts.length := by have := (List.getElem?_eq_some_iff.mp hq).1; omega
        have ht : ts[i]? = some (ts[i].1, ts[i].2) := List.getElem?_eq_getElem hi
        have h2 : (ts.take (i + 1)).map lnTask = (ts.take i).map lnTask ++ [lnTask ts[i]] := by rw [List.take_succ, List.getElem?_eq_getElem hi, List.map_append]; rfl
        obtain ⟨m0, m1, _, b9, hbu⟩ := tok.2 ts[i] (List.getElem_mem hi)
        generalize ts[i] = tm at ht h2 b9 m0 m1 hbu
        refine e_tsk (fun k h s => tf k h s.tail.tail) hq ht fun bA => ?_
        fail "egs"
        have s1 : (Str.ofString "task ").length = 5 := rfl
        have s2 : (Str.ofString " ").length = 1 := rfl
        have l1 := numS_len (n := tm.1.toNat) (by omega)
        refine e_strI (Nat.lt_of_le_of_lt (Nat.log2_le_self _) (by omega)) ?_
        rw [strI_num (by omega)]
        refine e_addS (sz1 (by omega)) ?_
        fail "egs"
        obtain ⟨g, hg⟩ : ∃ g : Int → Str, g = fun z => (" " : Str) ++ numS z.toNat := ⟨_, rfl⟩
        refine e_lcGT (tm.2) (fun z => some (V.str (g z))) inferInstance (by simp) (fun D5 j x z hx hz => ?_) fun D5 => ?_
        · rw [List.getElem?_map, hz] at hx
          cases hx
          fail "egs"
          refine e_and rfl ?_
          fail "egs"
          have hz40 := hbu z (List.mem_of_getElem? hz)
          have lz := numS_len (n := z.toNat) (by omega)
          refine e_strI (Nat.lt_of_le_of_lt (Nat.log2_le_self _) (by omega)) ?_
          rw [strI_num (by omega)]
          refine e_addS (sz1 (by omega)) ?_
          rw [show Str.ofString " " ++ numS z.toNat = g z by rw [hg]]
          refine e_some (f := fun z => some (V.str (g z))) (y := V.str (g z)) (u := z) hz rfl (by omega) ?_
          infer_instance
        rw [show tm.2.filterMap (fun z => some (V.str (g z))) = (tm.2.map g).map V.str by rw [List.map_map]; exact fm_someT]
        fail "egs"
        have hgl : ∀ w ∈ tm.2.map g, w.length ≤ 4 := fun w hw => by
          obtain ⟨z, hz, rfl⟩ := List.mem_map.mp hw
          have hz40 := hbu z hz
          have lz := numS_len (n := z.toNat) (by omega)
          rw [hg]
          show (Str.ofString " " ++ numS z.toNat).length ≤ 4
          rw [str_lenA]; omega
        have hgn : (tm.2.map g).length = tm.2.length := List.length_map ..
        have hjl : (Txt.join (Str.ofString "") (tm.2.map g)).length ≤ 36 := by
          rw [TL.len_tl, TL.join_eq, TL.tl_join]
          have := len_joinL (S := TL.tl "") (k := 4) (ps := (tm.2.map g).map TL.tl) fun p hp => by
            obtain ⟨w, hw, rfl⟩ := List.mem_map.mp hp
            rw [← TL.len_tl]; exact hgl w hw
          rw [List.length_map, hgn, show (TL.tl ("" : Str)).length = 0 from rfl] at this
          exact Nat.le_trans this (by omega)
        have hsl := sum_lens (l := tm.2.map g) (k := 4) hgl
        have htk : Str.ofString "task " ++ numS tm.1.toNat ++ Txt.join (Str.ofString "") (tm.2.map g) = Txt.join " " (lnTask tm) := by
          have : tm.2.map g = (tm.2.map fun z => numS z.toNat).map fun b => (" " : Str) ++ b := by rw [hg, List.map_map]; rfl
          rw [this]
          exact taskT
        refine e_join (ys := tm.2.map g) (by rw [show (Str.ofString "").length = 0 from rfl]; omega) ?_
        refine e_addS (sz1 (by rw [str_lenA]; omega)) ?_
        rw [htk]
        fail "egs"
        refine e_append (p := D4) (by simp only [List.length_map, List.length_cons, List.length_append, List.length_take]; omega) ?_
        fail "egs"
        rw [show ((lnHead R.boost R.kept :: (R.lines.map lnRow ++ (ts.take i).map lnTask)).map (Txt.join " ")).map V.str ++ [V.str (Txt.join " " (lnTask tm))] = ((lnHead R.boost R.kept :: (R.lines.map lnRow ++ (ts.take (i + 1)).map lnTask)).map (Txt.join " ")).map V.str by rw [h2]; simp only [List.map_append, List.map_cons, List.cons_append, List.append_assoc, List.map_nil, List.nil_append]]
        refine e_nx ?_
        exact ⟨_, ⟨_, _, rfl, rfl⟩, inferInstance⟩
      · rintro σ P' ⟨v6, v7, rfl, rfl⟩
        rw [List.length_map, hl, List.take_length]
        fail "egs"
        have hsl := sum_lens (l := rowsT R ts) (k := 66) (row_len (RulN.of ok) tok)
        have hrl2 := rows_len (R := R) (ts := ts)
        refine e_join (ys := rowsT R ts) (by rw [show (Str.ofString "\n").length = 1 from rfl]; omega) ?_
        refine Ent.to (Q := At (.ref ra) (RulX R) :: F) ?_
        fail "egs"
        exact k
  · intro N hN
    fail "egs"
    refine e_ifD (fun hz => ?_) (fun hz => ?_)
    · have hb : R.boost = none := by cases h : R.boost with
        | none => rfl
        | some z => rw [h] at hz; cases hz
      fail "egs"
      refine e_addS (by decide +kernel) ?_
      fail "egs"
      refine e_addS (by decide +kernel) ?_
      fail "egs"
      refine e_addS (by cases R.kept <;> decide +kernel) ?_
      fail "egs"
      refine e_lst (by show 1 ≤ 1000; decide) fun D1 => ?_
      fail "egs"
      rw [headT]
      refine Ent.to (Q := At (.ref D1) (LstX [.str (Txt.join " " (lnHead R.boost R.kept))]) :: At (.ref la) (KTup (ps.map V.ref)) :: At (.int 16) (PrK ps R.lines) :: At (.ref ra) (RulX R) :: F) (i := by rw [hb]; exact imp_refl) ?_
      exact hN _ _ ⟨D1, by rw [hb], rfl⟩
    · obtain ⟨z, hb⟩ : ∃ z, R.boost = some z := by cases h : R.boost with
        | none => rw [h] at hz; exact absurd rfl hz
        | some z => exact ⟨z, rfl⟩
      have h0 := ok.boosts z hb
      have hln := numS_len (n := z.toNat) (by omega)
      rw [hb]
      fail "egs"
      refine e_strI (Nat.lt_of_le_of_lt (Nat.log2_le_self _) (by omega)) ?_
      rw [strI_num (by omega)]
      have s1 : (Str.ofString "rules ").length = 6 := rfl
      have s2 : (Str.ofString " ").length = 1 := rfl
      refine e_addS (sz1 (by omega)) ?_
      fail "egs"
      refine e_addS (sz1 (by rw [str_lenA]; omega)) ?_
      fail "egs"
      have s3 : (chS R.kept).length = 4 := by cases R.kept <;> rfl
      refine e_addS (sz1 (by rw [str_lenA, str_lenA]; omega)) ?_
      fail "egs"
      refine e_lst (by show 1 ≤ 1000; decide) fun D1 => ?_
      fail "egs"
      rw [headT]
      refine Ent.to (Q := At (.ref D1) (LstX [.str (Txt.join " " (lnHead R.boost R.kept))]) :: At (.ref la) (KTup (ps.map V.ref)) :: At (.int 16) (PrK ps R.lines) :: At (.ref ra) (RulX R) :: F) (i := by rw [hb]; exact imp_refl) ?_
      exact hN _ _ ⟨D1, by rw [hb], rfl⟩
theorem e_ltext {Pl F : List As} {ra D : Addr} {R : Rul} {qs : List Addr} {ts : List (Int × List Int)} {Q : VK} {E : XK} [t : Take Pl (.ref ra) (RulX R) F] [sd : Sees F D (.lst (qs.map V.ref))] (tf : ∀ k h, SatL F k h → TskF qs ts k) (hl : qs.length = ts.length) (ok : R.Ok) (tok : TasksOk ts)
    (k : Ent (At (.ref ra) (RulX R) :: F) (fun H' => Q (.str (textT R ts)) H')) : Ent Pl (fun H => sp_law_text K a [.ref ra, .ref D] H Q E) := fun H s => sp2_mk ⟨ra, D, R, qs, ts, F, rfl, rfl, ok, tok, hl, sd, tf, s.imp t.tk, k⟩
end
end Qn

/-! L13: the law. -/
namespace Qn
open PySem L2
local macro_rules | `(tactic| fail "ne") => `(tactic| first | assumption | (apply Ne.symm; assumption) | (apply ne_of_none; assumption; assumption) | (apply Ne.symm; apply ne_of_none; assumption; assumption) | (apply ne_of; assumption; assumption; (intro z; cases z)))
local macro_rules | `(tactic| fail "hp") => `(tactic| with_reducible first | assumption | apply upd_same | (apply upd_old; rotate_left; assumption; fail "hp") | (apply upd_oth; rotate_left; fail "ne"; fail "hp"))
local macro_rules | `(tactic| fail "sl") => `(tactic| with_reducible first | assumption | (apply SqL.of; fail "hp"))
local macro_rules | `(tactic| fail "st") => `(tactic| with_reducible first | assumption | (apply SqT.of; fail "hp"))
local macro_rules | `(tactic| fail "tx") => `(tactic| with_reducible first | assumption | (apply Txt.c_Reader; assumption) | (apply Txt.n_Reader_head; assumption) | (apply Txt.n_Reader_read_lines; assumption) | (apply Txt.n_Reader_read_tasks; assumption))
local macro_rules | `(tactic| fail "lk") => `(tactic| with_reducible first | assumption | apply lk_LF_rules | apply lk_LF_cards | apply lk_LF_rows | apply lk_LF_time | apply lk_CF_line | apply lk_CF_quantum | apply lk_CF_share | apply lk_CF_is_ready | apply lk_CF_spent | (apply lk_LF_no; decide +kernel; decide +kernel; decide +kernel; decide +kernel))
local macro_rules | `(tactic| fail "at") => `(tactic| with_reducible first | assumption | apply mc_0 | apply mc_1 | apply mc_2 | apply mc_3 | apply mc_4 | apply at_0 | apply at_1 | apply at_2 | apply at_3 | apply at_4 | (apply atI_nat; assumption) | (apply at_z; assumption))
local macro_rules | `(tactic| fail "go") => `(tactic| repeat (first
  | apply rd_step
  | with_reducible (first
    | (apply r_kFld; fail "hp"; fail "tx"; fail "tx"; fail "lk")
    | (apply r_ixL; fail "sl"; fail "at") | (apply r_ixT; fail "st"; fail "at")
    | (apply r_kMeth; fail "hp"; fail "lk") | (apply r_kBML; fail "sl")
    | (apply r_lenL; fail "sl") | (apply r_lenT; fail "st") | (apply r_lenD; fail "hp")
    | (apply r_kDGetI; fail "hp"; (first | assumption | rfl)) | (apply r_kDGetS; fail "hp"; (first | assumption | apply mv_rules | apply mv_rows | apply mv_cards | apply mv_now)) | (apply r_kDInI; fail "hp") | (apply r_kDNotInI; fail "hp")
    | (apply r_kAugF; fail "hp"; fail "tx"; fail "tx"; fail "lk")
    | (apply r_isi_tuple_tuple; fail "st") | (apply r_isi_list_tuple; fail "sl") | (apply r_isi_list_list; fail "sl") | (apply r_isi_tuple_list; fail "st")
    | (apply r_kUnT; fail "st"; with_unfolding_all rfl) | (apply r_kIL; fail "sl") | (apply r_kIT; fail "st") | (apply r_kIE; fail "st") )))
local macro_rules | `(tactic| fail "eg") => `(tactic| repeat (first
  | apply stp
  | (refine e_rul0 (fun _ => ?_))

  | (refine e_tup0 (fun _ => ?_)) ))
local macro_rules | `(tactic| fail "egs") => `(tactic| (try (with_reducible refine e_seq ?_)) <;> repeat (first
  | apply stp
  | (with_reducible refine e_seq ?_)
  | (refine e_rul0 (fun _ => ?_))

  | (refine e_tup0 (fun _ => ?_)) ))

local instance (priority := 2000) stopS_L13 {P : List As} {t1 t2 : TS} {D : Ends} {σ : St} : Stp P (fun H => tSeq t1 t2 D σ H) P (fun H => Sq (tSeq t1 t2 D) σ H) := stop_seq
section
variable {P : Program} {w : World} {K : PySem.W.Frag} {mg : Str → Option Value} {base : Heap} {a : Adr}
theorem chS_ok {kp : Bool} : PyData.strOk (chS kp) = true := by cases kp <;> decide +kernel
theorem sh_chS {n : Nat} {kp : Bool} : Sh n (.str (chS kp)) := ⟨by simpa [PyData.canLay0] using chS_ok, by simp [PyData.depth]⟩
def prD (x : Int × Int) : PyData := .tuple [.int x.1, .int x.2]
def rulD (R : Rul) : PyData := .tuple [.tuple (R.lines.map prD), bD R.boost, .str (chS R.kept)]
theorem prs_dp {H : Hp} : ∀ (qs : List Addr) (rs : List (Int × Int)), qs.length = rs.length → PrF qs rs H → DpAll K H (qs.map V.ref) (rs.map prD)
  | [], [], _, _ => .nil
  | q :: qs, c :: cs, hl, h => .cons (.tup (SqT.of (h 0 q c rfl rfl)) (.cons (.int _) (.cons (.int _) .nil))) (prs_dp qs cs (by simpa using hl) fun i q y e1 e2 => h (i + 1) q y e1 e2)
  | [], _ :: _, hl, _ => by cases hl
  | _ :: _, [], hl, _ => by cases hl
instance has_rul {Pl F : List As} {p : Addr} {R : Rul} [t : Take Pl (.ref p) (RulX R) F] : HasD K Pl (.ref p) (rulD R) := ⟨fun H s => by
  obtain ⟨g, h, s1, s2, x, ra, la, ps, e, r⟩ := s.tell (t := t)
  cases e
  refine .tup (SqT.of (s1 _ _ r.rules)) (.cons (.tup (SqT.of (s1 _ _ r.lines)) (prs_dp ps R.lines r.len fun i q x e1 e2 => ?_)) (.cons ?_ (.cons (.str _) .nil)))
  · have h1 := s1 _ _ (r.pair i q e1)
    have hq : R.q i = x.1 ∧ R.s i = x.2 := by
      unfold Rul.q Rul.s
      rw [List.getD_eq_getElem?_getD, e2]
      exact ⟨rfl, rfl⟩
    rw [hq.1, hq.2] at h1
    exact h1
  · cases R.boost with
    | none => exact .non
    | some z => exact .int z⟩
theorem sh_rul {R : Rul} : Sh 3 (rulD R) := sh_tup (n := 2) (sh_cons (sh_tup (n := 1) (sh_map fun x => sh_tup (n := 0) (sh_cons sh_int (sh_cons sh_int sh_nil)))) (sh_cons (by cases R.boost with
  | none => exact sh_none
  | some z => exact sh_int) (sh_cons sh_chS sh_nil)))
instance has_tsks15 {Pl F : List As} {qs : List Addr} {ts : List (Int × List Int)} [t : Take Pl (.int 15) (TskK qs ts) F] [hl : Ln qs.length ts.length] : HasDs K Pl (qs.map V.ref) (ts.map tskD) := ⟨fun H s => by
  obtain ⟨k, h, s1, s2, x, q⟩ := s.tell (t := t)
  exact tsks_dp qs ts hl.eq (TskF.mono s1 q)⟩
theorem dt_read {R : Rul} {ts : List (Int × List Int)} (ok : R.Ok) (tok : TasksOk ts) : Dt 8 (.tuple [rulD R, .list (ts.map tskD)]) := by
  have h4 := ok.four
  have h12 := tok.1
  refine ⟨by simp, fun d hd => ?_⟩
  simp only [List.mem_cons, List.not_mem_nil, or_false] at hd
  rcases hd with rfl | rfl
  · refine ⟨by simp, fun d hd => ?_⟩
    simp only [List.mem_cons, List.not_mem_nil, or_false] at hd
    rcases hd with rfl | rfl | rfl
    · refine ⟨by simp; omega, fun d hd => ?_⟩
      obtain ⟨x, hx, rfl⟩ := List.mem_map.mp hd
      refine ⟨by simp, fun d hd => ?_⟩
      simp only [List.mem_cons, List.not_mem_nil, or_false] at hd
      rcases hd with rfl | rfl <;> trivial
    · cases R.boost <;> trivial
    · exact chS_ok
  · refine ⟨by simp; omega, fun d hd => ?_⟩
    obtain ⟨x, hx, rfl⟩ := List.mem_map.mp hd
    obtain ⟨_, _, _, b9, _⟩ := tok.2 x hx
    refine ⟨by simp, fun d hd => ?_⟩
    simp only [List.mem_cons, List.not_mem_nil, or_false] at hd
    rcases hd with rfl | rfl
    · trivial
    · refine ⟨by simp; omega, fun d hd => ?_⟩
      obtain ⟨y, hy, rfl⟩ := List.mem_map.mp hd
      trivial

theorem mem_joinL {c : Nat} {S : List Nat} : ∀ {ps : List (List Nat)}, c ∈ TL.joinL S ps → c ∈ S ∨ ∃ p ∈ ps, c ∈ p
  | [], h => by simp [TL.joinL] at h
  | [p], h => .inr ⟨p, List.mem_cons_self, h⟩
  | p :: q :: r, h => by
    have h' : c ∈ p ++ (S ++ TL.joinL S (q :: r)) := h
    rcases List.mem_append.mp h' with z | z
    · exact .inr ⟨p, List.mem_cons_self, z⟩
    · rcases List.mem_append.mp z with y | y
      · exact .inl y
      · rcases mem_joinL y with y | ⟨u, hu, y⟩
        · exact .inl y
        · exact .inr ⟨u, List.mem_cons_of_mem _ hu, y⟩
def SmS (s : Str) : Prop := ∀ c ∈ TL.tl s, c < 128
theorem SmS.join {x : Str} {l : List Str} (hx : SmS x) (h : ∀ w ∈ l, SmS w) : SmS (Txt.join x l) := fun c hc => by
  rw [TL.join_eq, TL.tl_join] at hc
  rcases mem_joinL hc with z | ⟨p, hp, z⟩
  · exact hx c z
  · obtain ⟨w, hw, rfl⟩ := List.mem_map.mp hp
    exact h w hw c z
theorem SmS.num {n : Nat} : SmS (numS n) := fun c hc => by
  rw [show TL.tl (numS n) = TL.numL n from TL.tl_num n] at hc
  have := TL.numL_digits n c hc
  omega
theorem sms_lit : SmS "rules" ∧ SmS "-" ∧ SmS "kept" ∧ SmS "anew" ∧ SmS "line" ∧ SmS "task" ∧ SmS " " ∧ SmS "\n" := by
  unfold SmS
  decide +kernel
theorem text_sms {R : Rul} {ts : List (Int × List Int)} : SmS (textT R ts) := by
  obtain ⟨w1, w2, w3, w4, w5, w6, w7, w8⟩ := sms_lit
  refine SmS.join w8 fun l hl => ?_
  unfold rowsT at hl
  obtain ⟨ws, hws, rfl⟩ := List.mem_map.mp hl
  refine SmS.join w7 fun w hw => ?_
  rcases List.mem_cons.mp hws with e | e
  · subst e
    simp only [lnHead, List.mem_cons, List.not_mem_nil, or_false] at hw
    rcases hw with rfl | rfl | rfl
    · exact w1
    · cases R.boost with
      | none => exact w2
      | some z => exact SmS.num
    · split
      · exact w3
      · exact w4
  · rcases List.mem_append.mp e with z | z
    · obtain ⟨x, hx, rfl⟩ := List.mem_map.mp z
      simp only [lnRow, List.mem_cons, List.not_mem_nil, or_false] at hw
      rcases hw with rfl | rfl | rfl
      · exact w5
      · exact SmS.num
      · exact SmS.num
    · obtain ⟨x, hx, rfl⟩ := List.mem_map.mp z
      simp only [lnTask, List.mem_cons, List.mem_map] at hw
      rcases hw with rfl | rfl | ⟨y, hy, rfl⟩
      · exact w6
      · exact SmS.num
      · exact SmS.num
theorem SmS.ok {s : Str} (h : SmS s) : PyData.strOk s = true := by
  unfold PyData.strOk
  rw [Array.all_eq_true_iff_forall_mem]
  intro c hc
  have := h c (by simpa [TL.tl] using hc)
  simp; omega
def spL (K : PySem.W.Frag) : Sp := sp1 fun x H Q _ => ∃ (s : Addr) (ns : List Int), x = .ref s ∧ SqL K H s (ns.map V.int) ∧ ns.length ≤ 1000 ∧ (∀ z ∈ ns, Builtin.Int.intBits z ≤ 1048576) ∧ ∀ H', Q (.bl true) H'
theorem okF_law (T : Txt K mg a) {fd : FuncData} (F : Fun K "law" "law" s_law a.law fd) : FnOk P w K mg base CX0 11 a.law fd ["_law_script"] (spL K) := by
  refine F.ok sc_law (fun vs H Q E h => sp1_len h) (fun cdv A outer s H vs Q E hr h => ?_)
  refine ⟨_, (pss_cons (ps_set (i := 1) sc_law.nd rfl (Or.inl rfl) (q_call (ok_law_begun T) (hr.mono (by decide)) pass0 (pa_cons (pv 0) pa_nil)))
 (pss_cons (ps_for PassesOwn.never rfl (pi_range1 rfl T.z_range (pa_cons pe_int pa_nil)) (pg_name (i := 2) sc_law.nd rfl (Or.inl rfl))
 (pss_cons (ps_par (i := 3) (j := 4) (by rfl) sc_law.nd rfl rfl (by decide) rfl rfl (pa_cons (q_call (ok_law_rules T) (hr.mono (by decide)) pass0 (pa_cons (pv 1) pa_nil)) (pa_cons (q_call (ok_law_tasks T) (hr.mono (by decide)) pass0 (pa_cons (pv 1) (pa_cons pe_int pa_nil))) pa_nil)) (by rfl))
 (pss_cons (ps_set (i := 5) sc_law.nd rfl (Or.inl rfl) (pe_callTy qr_list (by rfl) T.z_list (by decide +kernel) (pa_cons (pv 4) pa_nil)))
 (pss_one (ps_for PassesOwn.never rfl (pi_range1 rfl T.z_range (pa_cons pe_int pa_nil)) (pg_name (i := 6) sc_law.nd rfl (Or.inl rfl))
 (pss_cons (ps_set (i := 7) sc_law.nd rfl (Or.inl rfl) (q_call (ok_read T) (hr.mono (by decide)) pass0 (pa_cons (q_call (ok_law_text T) (hr.mono (by decide)) pass0 (pa_cons (pv 3) (pa_cons (pv 4) pa_nil))) pa_nil)))
 (pss_cons (ps_if (PW.pt (pw_or (pt_not (pt_val (q_call (ok_law_alike T) (hr.mono (by decide)) pass0 (pa_cons (q_call (ok_written T) (hr.mono (by decide)) pass0 (pa_cons (pv 3) (pa_cons (pv 5) pa_nil))) (pa_cons (q_call (ok_law_text T) (hr.mono (by decide)) pass0 (pa_cons (pv 3) (pa_cons (pv 4) pa_nil))) pa_nil))))) (pw_or1 (pt_cmpR (op_neD (by exact hr.units)) (pv 5) (pv 4) (nomark _)))))
 (pss_one (ps_ret pe_bl))
 pss_nil)
 (pss_cons (ps_if (pt_not (pt_val (q_call (ok_law_alike T) (hr.mono (by decide)) pass0 (pa_cons (pv 7) (pa_cons (pe_tup (pa_cons (pv 3) (pa_cons (pv 4) pa_nil))) pa_nil)))))
 (pss_one (ps_ret pe_bl))
 pss_nil)
 (pss_one (ps_expr (pe_bm PySem.F.plainAttrs_list PySem.F.slot_list_append PySem.F.type_list_append mt_append (pe_ix ix_tup (pv 7) pe_int (fun _ _ => rfl)) (pa_cons pe_int pa_nil))))))))))))
 (pss_one (ps_ret pe_bl)))), ?_⟩
  try dsimp only [cxOf, Cx.nox, Cx.wish, List.map_cons, List.map_nil]
  obtain ⟨x, rfl, h⟩ := h
  rw [show L2.start N_law [x] = [some x, none, none, none, none, none, none, none] from rfl]
  obtain ⟨s, ns, rfl, hs, hn, hb, k⟩ := h
  fail "go"
  refine sp1_mk ⟨s, ns, rfl, hs, hn, hb, fun p q H1 np nq s1 B1 => ?_⟩
  refine Ent.atG (sat_box B1) ?_
  refine Ent.to (Q := At (.ref p) BoxX :: []) ?_
  fail "egs"
  refine e_range1 (by omega) ?_
  refine e_forR0 (n := 5) (fun _ σ P' => ∃ (v2 v3 v4 v5 v6 v7 : Option V), σ = [some (.ref s), some (.ref p), v2, v3, v4, v5, v6, v7] ∧ P' = At (.ref p) BoxX :: []) ⟨_, _, _, _, _, _, rfl, rfl⟩ ?_ ?_
  · rintro tn σ P' htn ⟨v2, v3, v4, v5, v6, v7, rfl, rfl⟩
    fail "egs"
    refine e_rules fun ra R ok => ?_
    fail "egs"
    refine e_ltasks (by omega) fun D qs ts hl hlm tok => ?_
    haveI : Ln qs.length ts.length := ⟨hl⟩
    fail "egs"
    refine e_list (p := D) fun Dh => ?_
    refine Ent.to (Q := At (.ref Dh) (LstX (qs.map V.ref)) :: At (.ref ra) (RulX R) :: At (.ref D) (LstX (qs.map V.ref)) :: At (.int 5) (TskK qs ts) :: At (.ref p) BoxX :: []) ?_
    fail "egs"
    refine e_range1 (by omega) ?_
    refine e_forR0 (n := 2) (fun _ σ P' => ∃ (v2 v6 v7 : Option V), σ = [some (.ref s), some (.ref p), v2, some (.ref ra), some (.ref D), some (.ref Dh), v6, v7] ∧ P' = At (.ref Dh) (LstX (qs.map V.ref)) :: At (.ref ra) (RulX R) :: At (.ref D) (LstX (qs.map V.ref)) :: At (.int 5) (TskK qs ts) :: At (.ref p) BoxX :: []) ⟨_, _, _, rfl, rfl⟩ ?_ ?_
    · rintro an σ P' han ⟨v2, v6, v7, rfl, rfl⟩
      fail "egs"
      refine e_ltext (F := At (.ref Dh) (LstX (qs.map V.ref)) :: At (.ref ra) (RulX R) :: At (.ref D) (LstX (qs.map V.ref)) :: At (.int 5) (TskK qs ts) :: At (.ref p) BoxX :: []) (fun k h s => kn_of (φ := TskF qs ts) (m := TskF.mono) (v := .int 5) inferInstance s) hl ok tok ?_
      refine Ent.to (Q := At (.ref Dh) (LstX (qs.map V.ref)) :: At (.ref ra) (RulX R) :: At (.ref D) (LstX (qs.map V.ref)) :: At (.int 5) (TskK qs ts) :: At (.ref p) BoxX :: []) ?_
      fail "egs"
      refine e_read ok tok fun fo rb D2 qs2 hl2 => ?_
      haveI : Ln qs2.length ts.length := ⟨hl2⟩
      refine Ent.to (Q := At (.ref fo) (KTup [.ref rb, .ref D2]) :: At (.ref rb) (RulX R) :: At (.ref D2) (LstX (qs2.map V.ref)) :: At (.int 15) (TskK qs2 ts) :: At (.ref Dh) (LstX (qs.map V.ref)) :: At (.ref ra) (RulX R) :: At (.ref D) (LstX (qs.map V.ref)) :: At (.int 5) (TskK qs ts) :: At (.ref p) BoxX :: []) ?_
      fail "egs"
      refine e_written (D := Dh) (F := At (.ref fo) (KTup [.ref rb, .ref D2]) :: At (.ref rb) (RulX R) :: At (.ref D2) (LstX (qs2.map V.ref)) :: At (.int 15) (TskK qs2 ts) :: At (.ref Dh) (LstX (qs.map V.ref)) :: At (.ref ra) (RulX R) :: At (.ref D) (LstX (qs.map V.ref)) :: At (.int 5) (TskK qs ts) :: At (.ref p) BoxX :: []) (fun k h s => kn_of (φ := TskF qs ts) (m := TskF.mono) (v := .int 5) inferInstance s) hl ok tok ?_
      fail "egs"
      refine Ent.to (Q := At (.ref fo) (KTup [.ref rb, .ref D2]) :: At (.ref rb) (RulX R) :: At (.ref D2) (LstX (qs2.map V.ref)) :: At (.int 15) (TskK qs2 ts) :: At (.ref Dh) (LstX (qs.map V.ref)) :: At (.ref ra) (RulX R) :: At (.ref D) (LstX (qs.map V.ref)) :: At (.int 5) (TskK qs ts) :: At (.ref p) BoxX :: []) ?_
      refine e_ltext (F := At (.ref fo) (KTup [.ref rb, .ref D2]) :: At (.ref rb) (RulX R) :: At (.ref D2) (LstX (qs2.map V.ref)) :: At (.int 15) (TskK qs2 ts) :: At (.ref Dh) (LstX (qs.map V.ref)) :: At (.ref ra) (RulX R) :: At (.ref D) (LstX (qs.map V.ref)) :: At (.int 5) (TskK qs ts) :: At (.ref p) BoxX :: []) (fun k h s => kn_of (φ := TskF qs ts) (m := TskF.mono) (v := .int 5) inferInstance s) hl ok tok ?_
      fail "egs"
      refine e_alike (a := a) (.str (textT R ts)) text_sms.ok ?_
      fail "egs"
      refine e_neSame (.list (ts.map tskD)) (sh_tsks.mono (by decide)) ?_
      refine Ent.to (Q := At (.ref fo) (KTup [.ref rb, .ref D2]) :: At (.ref rb) (RulX R) :: At (.ref D2) (LstX (qs2.map V.ref)) :: At (.int 15) (TskK qs2 ts) :: At (.ref Dh) (LstX (qs.map V.ref)) :: At (.ref ra) (RulX R) :: At (.ref D) (LstX (qs.map V.ref)) :: At (.int 5) (TskK qs ts) :: At (.ref p) BoxX :: []) ?_
      fail "egs"
      refine e_tup (by simp) fun t1 => ?_
      refine e_alike (a := a) (.tuple [rulD R, .list (ts.map tskD)]) (dt_read ok tok) ?_
      refine Ent.to (Q := At (.ref fo) (KTup [.ref rb, .ref D2]) :: At (.ref rb) (RulX R) :: At (.ref D2) (LstX (qs2.map V.ref)) :: At (.int 15) (TskK qs2 ts) :: At (.ref Dh) (LstX (qs.map V.ref)) :: At (.ref ra) (RulX R) :: At (.ref D) (LstX (qs.map V.ref)) :: At (.int 5) (TskK qs ts) :: At (.ref p) BoxX :: []) ?_
      fail "egs"
      refine e_append (p := D2) (by simp only [List.length_map]; have := tok.1; omega) ?_
      fail "egs"
      refine e_nx ?_
      exact ⟨_, ⟨_, _, _, rfl, rfl⟩, inferInstance⟩
    · rintro σ P' ⟨v2, v6, v7, rfl, rfl⟩
      fail "egs"
      refine e_nx ?_
      exact ⟨_, ⟨_, _, _, _, _, _, rfl, rfl⟩, inferInstance⟩
  · rintro σ P' ⟨v2, v3, v4, v5, v6, v7, rfl, rfl⟩
    fail "egs"
    exact fun H _ => k H
end
end Qn

/-! the end. -/
namespace Qn
open PySem L2
local macro_rules | `(tactic| fail "ne") => `(tactic| first | assumption | (apply Ne.symm; assumption) | (apply ne_of_none; assumption; assumption) | (apply Ne.symm; apply ne_of_none; assumption; assumption) | (apply ne_of; assumption; assumption; (intro z; cases z)))
local macro_rules | `(tactic| fail "hp") => `(tactic| with_reducible first | assumption | apply upd_same | (apply upd_old; rotate_left; assumption; fail "hp") | (apply upd_oth; rotate_left; fail "ne"; fail "hp"))
local macro_rules | `(tactic| fail "sl") => `(tactic| with_reducible first | assumption | (apply SqL.of; fail "hp"))
local macro_rules | `(tactic| fail "st") => `(tactic| with_reducible first | assumption | (apply SqT.of; fail "hp"))
local macro_rules | `(tactic| fail "tx") => `(tactic| with_reducible first | assumption | (apply Txt.c_Reader; assumption) | (apply Txt.n_Reader_head; assumption) | (apply Txt.n_Reader_read_lines; assumption) | (apply Txt.n_Reader_read_tasks; assumption))
local macro_rules | `(tactic| fail "lk") => `(tactic| with_reducible first | assumption | apply lk_LF_rules | apply lk_LF_cards | apply lk_LF_rows | apply lk_LF_time | apply lk_CF_line | apply lk_CF_quantum | apply lk_CF_share | apply lk_CF_is_ready | apply lk_CF_spent | (apply lk_LF_no; decide +kernel; decide +kernel; decide +kernel; decide +kernel))
local macro_rules | `(tactic| fail "at") => `(tactic| with_reducible first | assumption | apply mc_0 | apply mc_1 | apply mc_2 | apply mc_3 | apply mc_4 | apply at_0 | apply at_1 | apply at_2 | apply at_3 | apply at_4 | (apply atI_nat; assumption) | (apply at_z; assumption))
local macro_rules | `(tactic| fail "go") => `(tactic| repeat (first
  | apply rd_step
  | with_reducible (first
    | (apply r_kFld; fail "hp"; fail "tx"; fail "tx"; fail "lk")
    | (apply r_ixL; fail "sl"; fail "at") | (apply r_ixT; fail "st"; fail "at")
    | (apply r_kMeth; fail "hp"; fail "lk") | (apply r_kBML; fail "sl")
    | (apply r_lenL; fail "sl") | (apply r_lenT; fail "st") | (apply r_lenD; fail "hp")
    | (apply r_kDGetI; fail "hp"; (first | assumption | rfl)) | (apply r_kDGetS; fail "hp"; (first | assumption | apply mv_rules | apply mv_rows | apply mv_cards | apply mv_now)) | (apply r_kDInI; fail "hp") | (apply r_kDNotInI; fail "hp")
    | (apply r_kAugF; fail "hp"; fail "tx"; fail "tx"; fail "lk")
    | (apply r_isi_tuple_tuple; fail "st") | (apply r_isi_list_tuple; fail "sl") | (apply r_isi_list_list; fail "sl") | (apply r_isi_tuple_list; fail "st")
    | (apply r_kUnT; fail "st"; with_unfolding_all rfl) | (apply r_kIL; fail "sl") | (apply r_kIT; fail "st") | (apply r_kIE; fail "st") )))
local macro_rules | `(tactic| fail "eg") => `(tactic| repeat (first
  | apply stp
  | (refine e_rul0 (fun _ => ?_))

  | (refine e_tup0 (fun _ => ?_)) ))
local macro_rules | `(tactic| fail "egs") => `(tactic| (try (with_reducible refine e_seq ?_)) <;> repeat (first
  | apply stp
  | (with_reducible refine e_seq ?_)
  | (refine e_rul0 (fun _ => ?_))

  | (refine e_tup0 (fun _ => ?_)) ))
theorem all_mk {P : Program} {w : World} {K : PySem.W.Frag} {h : Heap} {mg : Str → Option Value} {fa A_is_number A_is_line A_need_rules A_is_bursts A_need_tasks A_written A_number_of A_Reader__init A_Reader_take A_read A_law_begun A_law_take A_law_alike A_law_rules A_law_tasks A_law_text A_law A_Reader : Addr} (X : K.In h) (G : h.Ns mainGlobals mg) (hfa : mg "law" = some (.ref fa))
    (e_Reader : PySem.W.nsIn K mainGlobals "Reader" = some (some (.ref A_Reader)))
    {od0 an0 : Option Addr} {sl0 : Array (Option Value)} {oc0 kV0 dc0 pm0 cd0 ct0 : Value}
    (a0 : PySem.W.nsIn K mainGlobals "is_number" = some (some (.ref A_is_number)))
    (l0 : K.lookup A_is_number = some ⟨oc0, od0, .func (PySem.W.fnOf "is_number" "is_number" (defArgs s_is_number) (defBody s_is_number) (defScope s_is_number) .none kV0 dc0 pm0 an0 cd0 ct0), sl0⟩) (c0 : PySem.W.codeIn K cd0 "is_number" = true) (k0 : PySem.W.keepIn K (.ref A_is_number) = true)
    {od1 an1 : Option Addr} {sl1 : Array (Option Value)} {oc1 kV1 dc1 pm1 cd1 ct1 : Value}
    (a1 : PySem.W.nsIn K mainGlobals "is_line" = some (some (.ref A_is_line)))
    (l1 : K.lookup A_is_line = some ⟨oc1, od1, .func (PySem.W.fnOf "is_line" "is_line" (defArgs s_is_line) (defBody s_is_line) (defScope s_is_line) .none kV1 dc1 pm1 an1 cd1 ct1), sl1⟩) (c1 : PySem.W.codeIn K cd1 "is_line" = true) (k1 : PySem.W.keepIn K (.ref A_is_line) = true)
    {od2 an2 : Option Addr} {sl2 : Array (Option Value)} {oc2 kV2 dc2 pm2 cd2 ct2 : Value}
    (a2 : PySem.W.nsIn K mainGlobals "need_rules" = some (some (.ref A_need_rules)))
    (l2 : K.lookup A_need_rules = some ⟨oc2, od2, .func (PySem.W.fnOf "need_rules" "need_rules" (defArgs s_need_rules) (defBody s_need_rules) (defScope s_need_rules) .none kV2 dc2 pm2 an2 cd2 ct2), sl2⟩) (c2 : PySem.W.codeIn K cd2 "need_rules" = true) (k2 : PySem.W.keepIn K (.ref A_need_rules) = true)
    {od3 an3 : Option Addr} {sl3 : Array (Option Value)} {oc3 kV3 dc3 pm3 cd3 ct3 : Value}
    (a3 : PySem.W.nsIn K mainGlobals "is_bursts" = some (some (.ref A_is_bursts)))
    (l3 : K.lookup A_is_bursts = some ⟨oc3, od3, .func (PySem.W.fnOf "is_bursts" "is_bursts" (defArgs s_is_bursts) (defBody s_is_bursts) (defScope s_is_bursts) .none kV3 dc3 pm3 an3 cd3 ct3), sl3⟩) (c3 : PySem.W.codeIn K cd3 "is_bursts" = true) (k3 : PySem.W.keepIn K (.ref A_is_bursts) = true)
    {od4 an4 : Option Addr} {sl4 : Array (Option Value)} {oc4 kV4 dc4 pm4 cd4 ct4 : Value}
    (a4 : PySem.W.nsIn K mainGlobals "need_tasks" = some (some (.ref A_need_tasks)))
    (l4 : K.lookup A_need_tasks = some ⟨oc4, od4, .func (PySem.W.fnOf "need_tasks" "need_tasks" (defArgs s_need_tasks) (defBody s_need_tasks) (defScope s_need_tasks) .none kV4 dc4 pm4 an4 cd4 ct4), sl4⟩) (c4 : PySem.W.codeIn K cd4 "need_tasks" = true) (k4 : PySem.W.keepIn K (.ref A_need_tasks) = true)
    {od5 an5 : Option Addr} {sl5 : Array (Option Value)} {oc5 kV5 dc5 pm5 cd5 ct5 : Value}
    (a5 : PySem.W.nsIn K mainGlobals "written" = some (some (.ref A_written)))
    (l5 : K.lookup A_written = some ⟨oc5, od5, .func (PySem.W.fnOf "written" "written" (defArgs s_written) (defBody s_written) (defScope s_written) .none kV5 dc5 pm5 an5 cd5 ct5), sl5⟩) (c5 : PySem.W.codeIn K cd5 "written" = true) (k5 : PySem.W.keepIn K (.ref A_written) = true)
    {od6 an6 : Option Addr} {sl6 : Array (Option Value)} {oc6 kV6 dc6 pm6 cd6 ct6 : Value}
    (a6 : PySem.W.nsIn K mainGlobals "number_of" = some (some (.ref A_number_of)))
    (l6 : K.lookup A_number_of = some ⟨oc6, od6, .func (PySem.W.fnOf "number_of" "number_of" (defArgs s_number_of) (defBody s_number_of) (defScope s_number_of) .none kV6 dc6 pm6 an6 cd6 ct6), sl6⟩) (c6 : PySem.W.codeIn K cd6 "number_of" = true) (k6 : PySem.W.keepIn K (.ref A_number_of) = true)
    {od7 an7 : Option Addr} {sl7 : Array (Option Value)} {oc7 kV7 dc7 pm7 cd7 ct7 : Value}
    (a7 : PySem.W.findIn K (.ref A_Reader) "__init__" = some (some (.ref A_Reader__init))) (i7 : PySem.W.isFn K (.ref A_Reader__init) = true)
    (l7 : K.lookup A_Reader__init = some ⟨oc7, od7, .func (PySem.W.fnOf "__init__" "Reader.__init__" (defArgs s_Reader__init) (defBody s_Reader__init) (defScope s_Reader__init) .none kV7 dc7 pm7 an7 cd7 ct7), sl7⟩) (c7 : PySem.W.codeIn K cd7 "Reader.__init__" = true) (k7 : PySem.W.keepIn K (.ref A_Reader__init) = true)
    {od8 an8 : Option Addr} {sl8 : Array (Option Value)} {oc8 kV8 dc8 pm8 cd8 ct8 : Value}
    (a8 : PySem.W.findIn K (.ref A_Reader) "take" = some (some (.ref A_Reader_take))) (i8 : PySem.W.isFn K (.ref A_Reader_take) = true)
    (l8 : K.lookup A_Reader_take = some ⟨oc8, od8, .func (PySem.W.fnOf "take" "Reader.take" (defArgs s_Reader_take) (defBody s_Reader_take) (defScope s_Reader_take) .none kV8 dc8 pm8 an8 cd8 ct8), sl8⟩) (c8 : PySem.W.codeIn K cd8 "Reader.take" = true) (k8 : PySem.W.keepIn K (.ref A_Reader_take) = true)
    {od9 an9 : Option Addr} {sl9 : Array (Option Value)} {oc9 kV9 dc9 pm9 cd9 ct9 : Value}
    (a9 : PySem.W.nsIn K mainGlobals "read" = some (some (.ref A_read)))
    (l9 : K.lookup A_read = some ⟨oc9, od9, .func (PySem.W.fnOf "read" "read" (defArgs s_read) (defBody s_read) (defScope s_read) .none kV9 dc9 pm9 an9 cd9 ct9), sl9⟩) (c9 : PySem.W.codeIn K cd9 "read" = true) (k9 : PySem.W.keepIn K (.ref A_read) = true)
    {od10 an10 : Option Addr} {sl10 : Array (Option Value)} {oc10 kV10 dc10 pm10 cd10 ct10 : Value}
    (a10 : PySem.W.nsIn K mainGlobals "_law_begun" = some (some (.ref A_law_begun)))
    (l10 : K.lookup A_law_begun = some ⟨oc10, od10, .func (PySem.W.fnOf "_law_begun" "_law_begun" (defArgs s_law_begun) (defBody s_law_begun) (defScope s_law_begun) .none kV10 dc10 pm10 an10 cd10 ct10), sl10⟩) (c10 : PySem.W.codeIn K cd10 "_law_begun" = true) (k10 : PySem.W.keepIn K (.ref A_law_begun) = true)
    {od11 an11 : Option Addr} {sl11 : Array (Option Value)} {oc11 kV11 dc11 pm11 cd11 ct11 : Value}
    (a11 : PySem.W.nsIn K mainGlobals "_law_take" = some (some (.ref A_law_take)))
    (l11 : K.lookup A_law_take = some ⟨oc11, od11, .func (PySem.W.fnOf "_law_take" "_law_take" (defArgs s_law_take) (defBody s_law_take) (defScope s_law_take) .none kV11 dc11 pm11 an11 cd11 ct11), sl11⟩) (c11 : PySem.W.codeIn K cd11 "_law_take" = true) (k11 : PySem.W.keepIn K (.ref A_law_take) = true)
    {od12 an12 : Option Addr} {sl12 : Array (Option Value)} {oc12 kV12 dc12 pm12 cd12 ct12 : Value}
    (a12 : PySem.W.nsIn K mainGlobals "_law_alike" = some (some (.ref A_law_alike)))
    (l12 : K.lookup A_law_alike = some ⟨oc12, od12, .func (PySem.W.fnOf "_law_alike" "_law_alike" (defArgs s_law_alike) (defBody s_law_alike) (defScope s_law_alike) .none kV12 dc12 pm12 an12 cd12 ct12), sl12⟩) (c12 : PySem.W.codeIn K cd12 "_law_alike" = true) (k12 : PySem.W.keepIn K (.ref A_law_alike) = true)
    {od13 an13 : Option Addr} {sl13 : Array (Option Value)} {oc13 kV13 dc13 pm13 cd13 ct13 : Value}
    (a13 : PySem.W.nsIn K mainGlobals "_law_rules" = some (some (.ref A_law_rules)))
    (l13 : K.lookup A_law_rules = some ⟨oc13, od13, .func (PySem.W.fnOf "_law_rules" "_law_rules" (defArgs s_law_rules) (defBody s_law_rules) (defScope s_law_rules) .none kV13 dc13 pm13 an13 cd13 ct13), sl13⟩) (c13 : PySem.W.codeIn K cd13 "_law_rules" = true) (k13 : PySem.W.keepIn K (.ref A_law_rules) = true)
    {od14 an14 : Option Addr} {sl14 : Array (Option Value)} {oc14 kV14 dc14 pm14 cd14 ct14 : Value}
    (a14 : PySem.W.nsIn K mainGlobals "_law_tasks" = some (some (.ref A_law_tasks)))
    (l14 : K.lookup A_law_tasks = some ⟨oc14, od14, .func (PySem.W.fnOf "_law_tasks" "_law_tasks" (defArgs s_law_tasks) (defBody s_law_tasks) (defScope s_law_tasks) .none kV14 dc14 pm14 an14 cd14 ct14), sl14⟩) (c14 : PySem.W.codeIn K cd14 "_law_tasks" = true) (k14 : PySem.W.keepIn K (.ref A_law_tasks) = true)
    {od15 an15 : Option Addr} {sl15 : Array (Option Value)} {oc15 kV15 dc15 pm15 cd15 ct15 : Value}
    (a15 : PySem.W.nsIn K mainGlobals "_law_text" = some (some (.ref A_law_text)))
    (l15 : K.lookup A_law_text = some ⟨oc15, od15, .func (PySem.W.fnOf "_law_text" "_law_text" (defArgs s_law_text) (defBody s_law_text) (defScope s_law_text) .none kV15 dc15 pm15 an15 cd15 ct15), sl15⟩) (c15 : PySem.W.codeIn K cd15 "_law_text" = true) (k15 : PySem.W.keepIn K (.ref A_law_text) = true)
    {od16 an16 : Option Addr} {sl16 : Array (Option Value)} {oc16 kV16 dc16 pm16 cd16 ct16 : Value}
    (a16 : PySem.W.nsIn K mainGlobals "law" = some (some (.ref A_law)))
    (l16 : K.lookup A_law = some ⟨oc16, od16, .func (PySem.W.fnOf "law" "law" (defArgs s_law) (defBody s_law) (defScope s_law) .none kV16 dc16 pm16 an16 cd16 ct16), sl16⟩) (c16 : PySem.W.codeIn K cd16 "law" = true) (k16 : PySem.W.keepIn K (.ref A_law) = true)
    (pg_Reader : PySem.W.plainGet K A_Reader Str.empty = true) (hd_Reader : PySem.W.hasDictIn K A_Reader = true) (po_Reader : PySem.W.plainOver K A_Reader = true) (sa_Reader : PySem.W.findIn K (.ref A_Reader) "__setattr__" = some (some (.builtin "object.__setattr__"))) (mk_Reader : PySem.W.makesIn K A_Reader = true) (kc_Reader : PySem.W.keepIn K (.ref A_Reader) = true)
    (n_Reader_head : PySem.W.findIn K (.ref A_Reader) "head" = some none)
    (n_Reader_read_lines : PySem.W.findIn K (.ref A_Reader) "read_lines" = some none)
    (n_Reader_read_tasks : PySem.W.findIn K (.ref A_Reader) "read_tasks" = some none)
    (z_len : PySem.W.nsIn K mainGlobals "len" = some none)
    (z_isinstance : PySem.W.nsIn K mainGlobals "isinstance" = some none)
    (z_all : PySem.W.nsIn K mainGlobals "all" = some none)
    (z_range : PySem.W.nsIn K mainGlobals "range" = some none)
    (z_enumerate : PySem.W.nsIn K mainGlobals "enumerate" = some none)
    (z_int : PySem.W.nsIn K mainGlobals "int" = some none)
    (z_bool : PySem.W.nsIn K mainGlobals "bool" = some none)
    (z_str : PySem.W.nsIn K mainGlobals "str" = some none)
    (z_tuple : PySem.W.nsIn K mainGlobals "tuple" = some none)
    (z_list : PySem.W.nsIn K mainGlobals "list" = some none)
    {t_MOST_LINES : Tok} (q_MOST_LINES : PySem.W.nsIn K mainGlobals "MOST_LINES" = some (some (.int 4 t_MOST_LINES)))
    {t_MOST_QUANTUM : Tok} (q_MOST_QUANTUM : PySem.W.nsIn K mainGlobals "MOST_QUANTUM" = some (some (.int 8 t_MOST_QUANTUM)))
    {t_MOST_SHARE : Tok} (q_MOST_SHARE : PySem.W.nsIn K mainGlobals "MOST_SHARE" = some (some (.int 40 t_MOST_SHARE)))
    {t_LEAST_BOOST : Tok} (q_LEAST_BOOST : PySem.W.nsIn K mainGlobals "LEAST_BOOST" = some (some (.int 5 t_LEAST_BOOST)))
    {t_MOST_BOOST : Tok} (q_MOST_BOOST : PySem.W.nsIn K mainGlobals "MOST_BOOST" = some (some (.int 100 t_MOST_BOOST)))
    {t_KEPT : Tok} (q_KEPT : PySem.W.nsIn K mainGlobals "KEPT" = some (some (.str "kept" t_KEPT)))
    {t_ANEW : Tok} (q_ANEW : PySem.W.nsIn K mainGlobals "ANEW" = some (some (.str "anew" t_ANEW)))
    {t_LINES : Tok} (q_LINES : PySem.W.nsIn K mainGlobals "LINES" = some (some (.int 0 t_LINES)))
    {t_BOOST : Tok} (q_BOOST : PySem.W.nsIn K mainGlobals "BOOST" = some (some (.int 1 t_BOOST)))
    {t_CHARGE : Tok} (q_CHARGE : PySem.W.nsIn K mainGlobals "CHARGE" = some (some (.int 2 t_CHARGE)))
    {t_MOST_TASKS : Tok} (q_MOST_TASKS : PySem.W.nsIn K mainGlobals "MOST_TASKS" = some (some (.int 12 t_MOST_TASKS)))
    {t_MOST_BURSTS : Tok} (q_MOST_BURSTS : PySem.W.nsIn K mainGlobals "MOST_BURSTS" = some (some (.int 9 t_MOST_BURSTS)))
    {t_MOST_BURST : Tok} (q_MOST_BURST : PySem.W.nsIn K mainGlobals "MOST_BURST" = some (some (.int 40 t_MOST_BURST)))
    {t_MOST_UNTIL : Tok} (q_MOST_UNTIL : PySem.W.nsIn K mainGlobals "MOST_UNTIL" = some (some (.int 400 t_MOST_UNTIL)))
    {t_FIGURES : Tok} (q_FIGURES : PySem.W.nsIn K mainGlobals "FIGURES" = some (some (.str "0123456789" t_FIGURES)))
    {t_LINE : Tok} (q_LINE : PySem.W.nsIn K mainGlobals "LINE" = some (some (.str "
" t_LINE)))
    {t_NONE : Tok} (q_NONE : PySem.W.nsIn K mainGlobals "NONE" = some (some (.str "-" t_NONE)))
    {t_RULES : Tok} (q_RULES : PySem.W.nsIn K mainGlobals "RULES" = some (some (.str "rules" t_RULES)))
    {t_ROW : Tok} (q_ROW : PySem.W.nsIn K mainGlobals "ROW" = some (some (.str "line" t_ROW)))
    {t_TASK : Tok} (q_TASK : PySem.W.nsIn K mainGlobals "TASK" = some (some (.str "task" t_TASK)))
    : ∃ fd : FuncData, (∀ (s : Shared) (v : Value), BindsTo s fd ⟨[v], []⟩ [("_law_script", v)]) ∧ ∀ base : Heap, K.In base → base.Ns mainGlobals mg → FnOk P w K mg base CX0 11 fa fd ["_law_script"] (spL K) := by
  have e := hfa.symm.trans (PySem.W.mg_of X G a16)
  obtain rfl : A_law = fa := (Value.ref.inj (Option.some.inj e)).symm
  have F0 := fun_mk (st := s_is_number) l0 c0 k0
  have B0 := F0.binds (ps := ["part", "low", "high"]) fun _ _ _ _ _ _ us hl => match us, hl with | [_, _, _], _ => rfl
  have F1 := fun_mk (st := s_is_line) l1 c1 k1
  have B1 := F1.binds (ps := ["line"]) fun _ _ _ _ _ _ us hl => match us, hl with | [_], _ => rfl
  have F2 := fun_mk (st := s_need_rules) l2 c2 k2
  have B2 := F2.binds (ps := ["rules"]) fun _ _ _ _ _ _ us hl => match us, hl with | [_], _ => rfl
  have F3 := fun_mk (st := s_is_bursts) l3 c3 k3
  have B3 := F3.binds (ps := ["bursts"]) fun _ _ _ _ _ _ us hl => match us, hl with | [_], _ => rfl
  have F4 := fun_mk (st := s_need_tasks) l4 c4 k4
  have B4 := F4.binds (ps := ["tasks"]) fun _ _ _ _ _ _ us hl => match us, hl with | [_], _ => rfl
  have F5 := fun_mk (st := s_written) l5 c5 k5
  have B5 := F5.binds (ps := ["rules", "tasks"]) fun _ _ _ _ _ _ us hl => match us, hl with | [_, _], _ => rfl
  have F6 := fun_mk (st := s_number_of) l6 c6 k6
  have B6 := F6.binds (ps := ["word"]) fun _ _ _ _ _ _ us hl => match us, hl with | [_], _ => rfl
  have F7 := fun_mk (st := s_Reader__init) l7 c7 k7
  have B7 := F7.binds (ps := ["self"]) fun _ _ _ _ _ _ us hl => match us, hl with | [_], _ => rfl
  have F8 := fun_mk (st := s_Reader_take) l8 c8 k8
  have B8 := F8.binds (ps := ["self", "words"]) fun _ _ _ _ _ _ us hl => match us, hl with | [_, _], _ => rfl
  have F9 := fun_mk (st := s_read) l9 c9 k9
  have B9 := F9.binds (ps := ["text"]) fun _ _ _ _ _ _ us hl => match us, hl with | [_], _ => rfl
  have F10 := fun_mk (st := s_law_begun) l10 c10 k10
  have B10 := F10.binds (ps := ["_law_script"]) fun _ _ _ _ _ _ us hl => match us, hl with | [_], _ => rfl
  have F11 := fun_mk (st := s_law_take) l11 c11 k11
  have B11 := F11.binds (ps := ["_law_box", "_law_many"]) fun _ _ _ _ _ _ us hl => match us, hl with | [_, _], _ => rfl
  have F12 := fun_mk (st := s_law_alike) l12 c12 k12
  have B12 := F12.binds (ps := ["_law_found", "_law_due"]) fun _ _ _ _ _ _ us hl => match us, hl with | [_, _], _ => rfl
  have F13 := fun_mk (st := s_law_rules) l13 c13 k13
  have B13 := F13.binds (ps := ["_law_box"]) fun _ _ _ _ _ _ us hl => match us, hl with | [_], _ => rfl
  have F14 := fun_mk (st := s_law_tasks) l14 c14 k14
  have B14 := F14.binds (ps := ["_law_box", "_law_most"]) fun _ _ _ _ _ _ us hl => match us, hl with | [_, _], _ => rfl
  have F15 := fun_mk (st := s_law_text) l15 c15 k15
  have B15 := F15.binds (ps := ["_law_rules_here", "_law_tasks_here"]) fun _ _ _ _ _ _ us hl => match us, hl with | [_, _], _ => rfl
  have F16 := fun_mk (st := s_law) l16 c16 k16
  have B16 := F16.binds (ps := ["_law_script"]) fun _ _ _ _ _ _ us hl => match us, hl with | [_], _ => rfl
  have T : Txt K mg ⟨A_is_number, A_is_line, A_need_rules, A_is_bursts, A_need_tasks, A_written, A_number_of, A_Reader__init, A_Reader_take, A_read, A_law_begun, A_law_take, A_law_alike, A_law_rules, A_law_tasks, A_law_text, A_law, A_Reader⟩ := {
    f_is_number := ⟨_, F0, B0⟩,
    g_is_number := PySem.W.mg_of X G a0,
    f_is_line := ⟨_, F1, B1⟩,
    g_is_line := PySem.W.mg_of X G a1,
    f_need_rules := ⟨_, F2, B2⟩,
    g_need_rules := PySem.W.mg_of X G a2,
    f_is_bursts := ⟨_, F3, B3⟩,
    g_is_bursts := PySem.W.mg_of X G a3,
    f_need_tasks := ⟨_, F4, B4⟩,
    g_need_tasks := PySem.W.mg_of X G a4,
    f_written := ⟨_, F5, B5⟩,
    g_written := PySem.W.mg_of X G a5,
    f_number_of := ⟨_, F6, B6⟩,
    g_number_of := PySem.W.mg_of X G a6,
    f_Reader__init := ⟨_, F7, B7⟩,
    f_Reader_take := ⟨_, F8, B8⟩,
    m_Reader_take := ⟨a8, i8, k8⟩,
    f_read := ⟨_, F9, B9⟩,
    g_read := PySem.W.mg_of X G a9,
    f_law_begun := ⟨_, F10, B10⟩,
    g_law_begun := PySem.W.mg_of X G a10,
    f_law_take := ⟨_, F11, B11⟩,
    g_law_take := PySem.W.mg_of X G a11,
    f_law_alike := ⟨_, F12, B12⟩,
    g_law_alike := PySem.W.mg_of X G a12,
    f_law_rules := ⟨_, F13, B13⟩,
    g_law_rules := PySem.W.mg_of X G a13,
    f_law_tasks := ⟨_, F14, B14⟩,
    g_law_tasks := PySem.W.mg_of X G a14,
    f_law_text := ⟨_, F15, B15⟩,
    g_law_text := PySem.W.mg_of X G a15,
    f_law := ⟨_, F16, B16⟩,
    g_law := PySem.W.mg_of X G a16,
    c_Reader := ⟨pg_Reader, hd_Reader, po_Reader, sa_Reader⟩,
    g_Reader := PySem.W.mg_of X G e_Reader,
    n_Reader_head := n_Reader_head,
    n_Reader_read_lines := n_Reader_read_lines,
    n_Reader_read_tasks := n_Reader_read_tasks,
    k_Reader := ⟨mk_Reader, a7, i7, kc_Reader⟩,
    z_len := PySem.W.mg_none_of X G z_len,
    z_isinstance := PySem.W.mg_none_of X G z_isinstance,
    z_all := PySem.W.mg_none_of X G z_all,
    z_range := PySem.W.mg_none_of X G z_range,
    z_enumerate := PySem.W.mg_none_of X G z_enumerate,
    z_int := PySem.W.mg_none_of X G z_int,
    z_bool := PySem.W.mg_none_of X G z_bool,
    z_str := PySem.W.mg_none_of X G z_str,
    z_tuple := PySem.W.mg_none_of X G z_tuple,
    z_list := PySem.W.mg_none_of X G z_list,
    g_MOST_LINES := ⟨_, PySem.W.mg_of X G q_MOST_LINES⟩,
    g_MOST_QUANTUM := ⟨_, PySem.W.mg_of X G q_MOST_QUANTUM⟩,
    g_MOST_SHARE := ⟨_, PySem.W.mg_of X G q_MOST_SHARE⟩,
    g_LEAST_BOOST := ⟨_, PySem.W.mg_of X G q_LEAST_BOOST⟩,
    g_MOST_BOOST := ⟨_, PySem.W.mg_of X G q_MOST_BOOST⟩,
    g_KEPT := ⟨_, PySem.W.mg_of X G q_KEPT⟩,
    g_ANEW := ⟨_, PySem.W.mg_of X G q_ANEW⟩,
    g_LINES := ⟨_, PySem.W.mg_of X G q_LINES⟩,
    g_BOOST := ⟨_, PySem.W.mg_of X G q_BOOST⟩,
    g_CHARGE := ⟨_, PySem.W.mg_of X G q_CHARGE⟩,
    g_MOST_TASKS := ⟨_, PySem.W.mg_of X G q_MOST_TASKS⟩,
    g_MOST_BURSTS := ⟨_, PySem.W.mg_of X G q_MOST_BURSTS⟩,
    g_MOST_BURST := ⟨_, PySem.W.mg_of X G q_MOST_BURST⟩,
    g_MOST_UNTIL := ⟨_, PySem.W.mg_of X G q_MOST_UNTIL⟩,
    g_FIGURES := ⟨_, PySem.W.mg_of X G q_FIGURES⟩,
    g_LINE := ⟨_, PySem.W.mg_of X G q_LINE⟩,
    g_NONE := ⟨_, PySem.W.mg_of X G q_NONE⟩,
    g_RULES := ⟨_, PySem.W.mg_of X G q_RULES⟩,
    g_ROW := ⟨_, PySem.W.mg_of X G q_ROW⟩,
    g_TASK := ⟨_, PySem.W.mg_of X G q_TASK⟩ }
  exact ⟨PySem.W.fnOf "law" "law" (defArgs s_law) (defBody s_law) (defScope s_law) .none kV16 dc16 pm16 an16 cd16 ct16, fun s v => .of_eq rfl, fun base _ _ => okF_law T F16⟩
theorem walk {l : PySem.W.OpenLaw} {q : Program} {loose : List Str} {XP : (Str → Option Value) → Heap → Prop} {YP : World → Heap → Prop} {d : DefRec} {K : Params → PySem.W.Frag} (hn : l.most = some 63) (hdf : d.params.defaults = [])
    (hY : ∀ (w : World) (h : Heap), YP w h → (K w.params).In h)
    (F : ∀ (w : World) (mg : Str → Option Value) (fa : Addr) (h : Heap), (K w.params).In h → h.Ns mainGlobals mg → mg d.name = some (.ref fa) →
      ∃ fd : FuncData, (∀ (s : Shared) (u : Value), BindsTo s fd ⟨[u], []⟩ [("_law_script", u)]) ∧ ∀ base : Heap, (K w.params).In base → base.Ns mainGlobals mg → FnOk l.prog w (K w.params) mg base CX0 11 fa fd ["_law_script"] (spL (K w.params))) :
    PySem.W.WalkO q loose XP YP l.row.toRowW d [] (fun f vs => PySem.call f vs) :=
  L2.walk_ofB (n := 63) (k := 11) (x := "_law_script") (CX := fun _ => CX0) (sp := fun w => spL (K w.params)) hn (by decide) hdf ⟨rfl, by decide, by decide⟩ hY F (fun w H a ns hl hb _ hS => ⟨_, rfl, a, ns, rfl, hS, by omega, hb, fun _ => rfl⟩) fun _ _ _ _ _ z => z
end Qn
open PySem PySem.W PyProof.Rows
set_option maxRecDepth 100000 in
set_option maxHeartbeats 0 in
theorem PySem.Challenge.cw_quantalines_k13_rules_written_holds : PySem.Challenge.rw_quantalines_k13_rules_written.Holds := by
  w_on; o_law; k_head; (case hw => w_witness2)
  k_fill
  refine Qn.walk (l := PySem.Challenge.rw_quantalines_k13_rules_written) rfl rfl (fun w h Y => PySem.W.kIn_of Y) ?F
  case F =>
    intro w mg fa h KX G hmg
    refine' Qn.all_mk KX G hmg ?e_Reader ?a0 ?l0 ?c0 ?k0 ?a1 ?l1 ?c1 ?k1 ?a2 ?l2 ?c2 ?k2 ?a3 ?l3 ?c3 ?k3 ?a4 ?l4 ?c4 ?k4 ?a5 ?l5 ?c5 ?k5 ?a6 ?l6 ?c6 ?k6 ?a7 ?i7 ?l7 ?c7 ?k7 ?a8 ?i8 ?l8 ?c8 ?k8 ?a9 ?l9 ?c9 ?k9 ?a10 ?l10 ?c10 ?k10 ?a11 ?l11 ?c11 ?k11 ?a12 ?l12 ?c12 ?k12 ?a13 ?l13 ?c13 ?k13 ?a14 ?l14 ?c14 ?k14 ?a15 ?l15 ?c15 ?k15 ?a16 ?l16 ?c16 ?k16 ?pg_Reader ?hd_Reader ?po_Reader ?sa_Reader ?mk_Reader ?kc_Reader ?n_Reader_head ?n_Reader_read_lines ?n_Reader_read_tasks ?z_len ?z_isinstance ?z_all ?z_range ?z_enumerate ?z_int ?z_bool ?z_str ?z_tuple ?z_list ?q_MOST_LINES ?q_MOST_QUANTUM ?q_MOST_SHARE ?q_LEAST_BOOST ?q_MOST_BOOST ?q_KEPT ?q_ANEW ?q_LINES ?q_BOOST ?q_CHARGE ?q_MOST_TASKS ?q_MOST_BURSTS ?q_MOST_BURST ?q_MOST_UNTIL ?q_FIGURES ?q_LINE ?q_NONE ?q_RULES ?q_ROW ?q_TASK
    (case e_Reader => k_is)
    (case a0 => k_is)
    (case l0 => k_is)
    (case c0 => k_is)
    (case k0 => k_is)
    (case a1 => k_is)
    (case l1 => k_is)
    (case c1 => k_is)
    (case k1 => k_is)
    (case a2 => k_is)
    (case l2 => k_is)
    (case c2 => k_is)
    (case k2 => k_is)
    (case a3 => k_is)
    (case l3 => k_is)
    (case c3 => k_is)
    (case k3 => k_is)
    (case a4 => k_is)
    (case l4 => k_is)
    (case c4 => k_is)
    (case k4 => k_is)
    (case a5 => k_is)
    (case l5 => k_is)
    (case c5 => k_is)
    (case k5 => k_is)
    (case a6 => k_is)
    (case l6 => k_is)
    (case c6 => k_is)
    (case k6 => k_is)
    (case a7 => k_is)
    (case i7 => k_is)
    (case l7 => k_is)
    (case c7 => k_is)
    (case k7 => k_is)
    (case a8 => k_is)
    (case i8 => k_is)
    (case l8 => k_is)
    (case c8 => k_is)
    (case k8 => k_is)
    (case a9 => k_is)
    (case l9 => k_is)
    (case c9 => k_is)
    (case k9 => k_is)
    (case a10 => k_is)
    (case l10 => k_is)
    (case c10 => k_is)
    (case k10 => k_is)
    (case a11 => k_is)
    (case l11 => k_is)
    (case c11 => k_is)
    (case k11 => k_is)
    (case a12 => k_is)
    (case l12 => k_is)
    (case c12 => k_is)
    (case k12 => k_is)
    (case a13 => k_is)
    (case l13 => k_is)
    (case c13 => k_is)
    (case k13 => k_is)
    (case a14 => k_is)
    (case l14 => k_is)
    (case c14 => k_is)
    (case k14 => k_is)
    (case a15 => k_is)
    (case l15 => k_is)
    (case c15 => k_is)
    (case k15 => k_is)
    (case a16 => k_is)
    (case l16 => k_is)
    (case c16 => k_is)
    (case k16 => k_is)
    (case pg_Reader => k_is)
    (case hd_Reader => k_is)
    (case po_Reader => k_is)
    (case sa_Reader => k_is)
    (case mk_Reader => k_is)
    (case kc_Reader => k_is)
    (case n_Reader_head => k_is)
    (case n_Reader_read_lines => k_is)
    (case n_Reader_read_tasks => k_is)
    (case z_len => k_is)
    (case z_isinstance => k_is)
    (case z_all => k_is)
    (case z_range => k_is)
    (case z_enumerate => k_is)
    (case z_int => k_is)
    (case z_bool => k_is)
    (case z_str => k_is)
    (case z_tuple => k_is)
    (case z_list => k_is)
    (case q_MOST_LINES => k_is)
    (case q_MOST_QUANTUM => k_is)
    (case q_MOST_SHARE => k_is)
    (case q_LEAST_BOOST => k_is)
    (case q_MOST_BOOST => k_is)
    (case q_KEPT => k_is)
    (case q_ANEW => k_is)
    (case q_LINES => k_is)
    (case q_BOOST => k_is)
    (case q_CHARGE => k_is)
    (case q_MOST_TASKS => k_is)
    (case q_MOST_BURSTS => k_is)
    (case q_MOST_BURST => k_is)
    (case q_MOST_UNTIL => k_is)
    (case q_FIGURES => k_is)
    (case q_LINE => k_is)
    (case q_NONE => k_is)
    (case q_RULES => k_is)
    (case q_ROW => k_is)
    (case q_TASK => k_is)


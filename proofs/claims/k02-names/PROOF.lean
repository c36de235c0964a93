import PyProof.Rows.All
import Wide.All
import OpenK.AllK
import Wide.FinOn
import KE.KStateDown
import HandS.ForMost
import HandS.Exc
import HandS.TryOnly
import HandS.TryMany
import HandS.ExcOwn
import HandS.ExcIs
import HandS.WordsExc
import HandS.IsInst
import HandS.More
import HandS.Set
import HandS.SetKeys
import HandS.Strs
import HandS.SortInts
import HandS.Flow
import HandS.Steps
import HandS.Walk
import HandS.OwnEq
import PyProof.Rows.SortShellAny
import HandS.Head0
import HandS.Head1
import HandS.Head2
import HandS.HeadEnd
import HandS.HeadHook1
import HandS.HeadHook2
import PySem.Challenge.RW_keptrow_k02_names_and_values
set_option Elab.async false
set_option linter.all false
set_option maxRecDepth 100000
set_option maxHeartbeats 4000000
namespace Kr
open PySem PySem.Spec L2
/-! ### operators by names -/
def r_add : R2 := rI0 fun i j => .int (i + j)
def r_sub : R2 := rI0 fun i j => .int (i - j)
def r_mul : R2 := rI CMul fun i j => .int (i * j)
def r_div : R2 := rI CDiv fun i j => .int (i / j)
def r_mod : R2 := rI (fun _ j => 0 < j) fun i j => .int (i % j)
def r_pow : R2 := rI CPow fun i j => .int (i ^ j.toNat)
def r_lt : R2 := rI0 fun i j => .bl (decide (i < j))
def r_le : R2 := rI0 fun i j => .bl (decide (i ≤ j))
def r_gt : R2 := rI0 fun i j => .bl (decide (j < i))
def r_ge : R2 := rI0 fun i j => .bl (decide (j ≤ i))
def r_cat : R2 := fun x y H Q => ∃ i j : Str, x = .str i ∧ y = .str j ∧ i.length + j.length ≤ sizeLine ∧ Q (.str (i ++ j)) H
def r_isN : R2 := fun x y H Q => y = .non ∧ Q (.bl (decide (x = .non))) H
def r_notN : R2 := fun x y H Q => y = .non ∧ Q (.bl (!decide (x = .non))) H
def r_inC : R2 := fun x y H Q => ∃ (c : Nat) (z : Str), x = .str ⟨#[c]⟩ ∧ y = .str z ∧ Q (.bl (decide (c ∈ z.cps.toList))) H
def r_niC : R2 := fun x y H Q => ∃ (c : Nat) (z : Str), x = .str ⟨#[c]⟩ ∧ y = .str z ∧ Q (.bl (!decide (c ∈ z.cps.toList))) H
def r_neg : V → Hp → VK → Prop := rU fun i => .int (-i)
section
variable {X : Cx}
theorem o_add : OpR X (binaryOp .Add) r_add := op_add
theorem o_sub : OpR X (binaryOp .Sub) r_sub := op_sub
theorem o_mul : OpR X (binaryOp .Mult) r_mul := op_mul
theorem o_div : OpR X (binaryOp .FloorDiv) r_div := op_fdiv
theorem o_mod : OpR X (binaryOp .Mod) r_mod := op_mod
theorem o_pow : OpR X (binaryOp .Pow) r_pow := op_pow
theorem o_lt : OpR X (compareOp .Lt) r_lt := op_lt
theorem o_le : OpR X (compareOp .LtE) r_le := op_le
theorem o_gt : OpR X (compareOp .Gt) r_gt := op_gt
theorem o_ge : OpR X (compareOp .GtE) r_ge := op_ge
theorem o_cat : OpR X (binaryOp .Add) r_cat := op_add_str
theorem o_isN : OpR X (compareOp .Is) r_isN := op_isN
theorem o_notN : OpR X (compareOp .IsNot) r_notN := op_notN
theorem o_inC : OpR X (compareOp .In) r_inC := op_in_sign
theorem o_niC : OpR X (compareOp .NotIn) r_niC := op_notIn_sign
theorem o_neg : UnR X (unaryOp .USub) r_neg := un_neg
end
/-! ### built-ins by names -/
def c_len (K : PySem.W.Frag) : List V → Hp → VK → Prop := fun xs H Q => ∃ p ys, xs = [.ref p] ∧ (SqL K H p ys ∨ SqT K H p ys) ∧ Q (.int ys.length) H
def c_lenS : List V → Hp → VK → Prop := fun xs H Q => ∃ z : Str, xs = [.str z] ∧ z.length ≤ sizeLine ∧ Q (.int z.length) H
def c_lenD : List V → Hp → VK → Prop := fun xs H Q => ∃ a kvs, xs = [V.ref a] ∧ H a = some (.dK kvs) ∧ Q (.int kvs.length) H
def c_min2 : List V → Hp → VK → Prop := fun xs H Q => ∃ i j : Int, xs = [.int i, .int j] ∧ Q (.int (if j < i then j else i)) H
def c_max2 : List V → Hp → VK → Prop := fun xs H Q => ∃ i j : Int, xs = [.int i, .int j] ∧ Q (.int (if j > i then j else i)) H
def c_list (K : PySem.W.Frag) : List V → Hp → VK → Prop := fun xs H Q => ∃ p ys, xs = [.ref p] ∧ (SqL K H p ys ∨ SqT K H p ys) ∧ ∀ l, H l = none → Q (.ref l) (upd H l (.lst ys))
def c_listD : List V → Hp → VK → Prop := fun xs H Q => ∃ (a : Addr) (kvs : List (Key × V)), xs = [.ref a] ∧ Rd H a (.dK kvs) ∧ ∀ p, H p = none → Q (.ref p) (upd H p (.lst (kvs.map fun kv => kV kv.1)))
def c_dictD : List V → Hp → VK → Prop := fun xs H Q => ∃ (a : Addr) (kvs : List (Key × V)), xs = [.ref a] ∧ Rd H a (.dK kvs) ∧ ∀ p, H p = none → Q (.ref p) (upd H p (.dK kvs))
def c_int : List V → Hp → VK → Prop := fun xs H Q => (∃ i : Int, xs = [.int i] ∧ Q (.int i) H) ∨ ∃ k : Bool, xs = [.bl k] ∧ Q (.int (if k then 1 else 0)) H
def c_strI : List V → Hp → VK → Prop := fun xs H Q => ∃ i : Int, xs = [.int i] ∧ i.natAbs.log2 < 1920 ∧ Q (.str (toString i)) H
section
variable {X : Cx}
theorem k_len : CallR X (.builtin "len") (c_len X.K) := call_len_seq
theorem k_lenS : CallR X (.builtin "len") c_lenS := call_len_str
theorem k_lenD : CallR X (.builtin "len") c_lenD := call_lenD
theorem k_min2 (hc : X.calm = true) : CallR X (.builtin "min") c_min2 := call_min2 hc
theorem k_max2 (hc : X.calm = true) : CallR X (.builtin "max") c_max2 := call_max2 hc
theorem k_list : CallR X (.type "list") (c_list X.K) := call_list_of
theorem k_listD (hc : X.calm = true) : CallR X (.type "list") c_listD := call_listD hc
theorem k_dictD : CallR X (.type "dict") c_dictD := call_dictD
theorem k_int : CallR X (.type "int") c_int := call_int1
theorem k_strI : CallR X (.type "str") c_strI := call_str_int
end
/-! ### the readings, step by step -/
section
variable {t u : TS} {D : Ends} {σ : St} {H : Hp} {Q : VK} {te ta tb tc : TE} {r r' : R2} {c d : TT} {i : Nat} {v : V}
theorem x_seq (h : t ⟨u D, D.rt, D.bk, D.ct⟩ σ H) : tSeq t u D σ H := h
theorem x_next (h : D.nx σ H) : tNext D σ H := h
theorem x_asg (h : te σ H fun x H1 => D.nx (σ.set i (some x)) H1) : tAsg te (gName i) D σ H := h
theorem x_asgT {K : PySem.W.Frag} {n : Nat} {t : TGs} (h : te σ H fun x H1 => gTup K n t x σ H1 D.nx) : tAsg te (gTup K n t) D σ H := h
theorem x_drop (h : te σ H fun _ H1 => D.nx σ H1) : tDrop te D σ H := h
theorem x_ret (h : te σ H D.rt) : tRet te D σ H := h
theorem x_retN (h : D.rt .non H) : tRetN D σ H := h
theorem x_ifS (h : c σ H fun b H1 => if b = true then t D σ H1 else u D σ H1) : tIfS c t u D σ H := h
theorem x_brk (h : D.bk σ H) : tBreak D σ H := h
theorem x_cont (h : D.ct σ H) : tCont D σ H := h
theorem x_var (e : σ[i]? = some (some v)) (h : Q v H) : tVar i σ H Q := ⟨v, e, h⟩
theorem x_c (h : Q v H) : tC v σ H Q := h
theorem x_op (h : ta σ H fun x H1 => tb σ H1 fun y H2 => r x y H2 Q) : tOp r ta tb σ H Q := h
theorem x_un {r : V → Hp → VK → Prop} (h : ta σ H fun x H1 => r x H1 Q) : tUn r ta σ H Q := h
theorem x_chain (h : ta σ H fun x H1 => tb σ H1 fun y H2 => r x y H2 fun z H3 => ∃ k, z = .bl k ∧ (if k = true then tc σ H3 fun w' H4 => r' y w' H4 Q else Q (.bl false) H3)) : tChain r r' ta tb tc σ H Q := h
theorem x_test {Q : Bool → Hp → Prop} (h : te σ H fun x H' => ∃ k, x = .bl k ∧ Q k H') : tTest te σ H Q := h
theorem x_B {Q : Bool → Hp → Prop} (h : te σ H fun x H' => ∃ k, x = .bl k ∧ Q k H') : tB te σ H Q := h
theorem x_bl {b : Bool} {Q : Bool → Hp → Prop} (h : Q b H) : ∃ k, V.bl b = .bl k ∧ Q k H := ⟨b, rfl, h⟩
theorem x_and {Q : Bool → Hp → Prop} (h : c σ H fun b H1 => if b = true then d σ H1 Q else Q false H1) : tAnd c d σ H Q := h
theorem x_or {Q : Bool → Hp → Prop} (h : c σ H fun b H1 => if b = true then Q true H1 else d σ H1 Q) : tOr c d σ H Q := h
theorem x_not {Q : Bool → Hp → Prop} (h : c σ H fun b H1 => Q (!b) H1) : tNot c σ H Q := h
theorem x_andV (h : ta σ H fun x H1 => ∃ k, x = .bl k ∧ if k = true then tb σ H1 Q else Q (.bl false) H1) : tAndV ta tb σ H Q := h
theorem x_orV (h : ta σ H fun x H1 => ∃ k, x = .bl k ∧ if k = true then Q (.bl true) H1 else tb σ H1 Q) : tOrV ta tb σ H Q := h
theorem x_notV (h : ta σ H fun x H1 => ∃ k, x = .bl k ∧ Q (.bl (!k)) H1) : tNotV ta σ H Q := h
theorem x_blI {b : Bool} {A B : Prop} (h : if b = true then A else B) : ∃ k, V.bl b = .bl k ∧ if k = true then A else B := ⟨b, rfl, h⟩
theorem x_cons {tr : TA} {Q : List V → Hp → Prop} (h : ta σ H fun x H1 => tr σ H1 fun xs H2 => Q (x :: xs) H2) : tCons ta tr σ H Q := h
theorem x_nil {Q : List V → Hp → Prop} (h : Q [] H) : tNil σ H Q := h
theorem x_tup {tr : TA} (h : tr σ H fun xs H1 => xs.length ≤ sizeLine ∧ ∀ p, H1 p = none → Q (.ref p) (upd H1 p (.tup xs))) : tTup tr σ H Q := h
theorem x_lst {tr : TA} (h : tr σ H fun xs H1 => xs.length ≤ sizeLine ∧ ∀ p, H1 p = none → Q (.ref p) (upd H1 p (.lst xs))) : tLst tr σ H Q := h
theorem x_CB {r : List V → Hp → VK → Prop} {tr : TA} (h : tr σ H fun vs H1 => r vs H1 Q) : tCB r tr σ H Q := h
theorem x_call {sp : Sp} {dvs : List V} {E : XK} {tr : TA} (h : tr σ H fun vs H1 => sp (vs ++ dvs) H1 Q E) : tCall sp dvs E tr σ H Q := h
theorem x_callS {sp : Sp} {E : St → XK} {tr : TA} (h : tr σ H fun vs H1 => sp vs H1 Q (E σ)) : tCallS sp E tr σ H Q := h
theorem x_sl {r : V → Option Int → Option Int → Hp → VK → Prop} {tl th : TO} (h : te σ H fun x H1 => tl σ H1 fun l H2 => th σ H2 fun u H3 => r x l u H3 Q) : tSl r te tl th σ H Q := h
theorem x_noPart {Q : Option Int → Hp → Prop} (h : Q none H) : tNoPart σ H Q := h
theorem x_part {Q : Option Int → Hp → Prop} (h : te σ H fun x H1 => ∃ i, x = .int i ∧ Q (some i) H1) : tPart te σ H Q := h
theorem x_intI {j : Int} {Q : Int → Hp → Prop} (h : Q j H) : ∃ k, V.int j = .int k ∧ Q k H := ⟨j, rfl, h⟩
theorem x_intS {j : Int} {Q : Option Int → Hp → Prop} (h : Q (some j) H) : ∃ k, V.int j = .int k ∧ Q (some k) H := ⟨j, rfl, h⟩
theorem x_dNew (h : ∀ p, H p = none → Q (.ref p) (upd H p (.dK []))) : tDNewK σ H Q := h
variable {a b : Int}
theorem x_add (h : Q (.int (a + b)) H) : r_add (.int a) (.int b) H Q := ⟨a, b, rfl, rfl, h⟩
theorem x_sub (h : Q (.int (a - b)) H) : r_sub (.int a) (.int b) H Q := ⟨a, b, rfl, rfl, h⟩
theorem x_mul (e : CMul a b) (h : Q (.int (a * b)) H) : r_mul (.int a) (.int b) H Q := ⟨a, b, rfl, rfl, e, h⟩
theorem x_div (e : CDiv a b) (h : Q (.int (a / b)) H) : r_div (.int a) (.int b) H Q := ⟨a, b, rfl, rfl, e, h⟩
theorem x_mod (e : 0 < b) (h : Q (.int (a % b)) H) : r_mod (.int a) (.int b) H Q := ⟨a, b, rfl, rfl, e, h⟩
theorem x_pow (e : CPow a b) (h : Q (.int (a ^ b.toNat)) H) : r_pow (.int a) (.int b) H Q := ⟨a, b, rfl, rfl, e, h⟩
theorem x_lt (h : Q (.bl (decide (a < b))) H) : r_lt (.int a) (.int b) H Q := ⟨a, b, rfl, rfl, h⟩
theorem x_le (h : Q (.bl (decide (a ≤ b))) H) : r_le (.int a) (.int b) H Q := ⟨a, b, rfl, rfl, h⟩
theorem x_gt (h : Q (.bl (decide (b < a))) H) : r_gt (.int a) (.int b) H Q := ⟨a, b, rfl, rfl, h⟩
theorem x_ge (h : Q (.bl (decide (b ≤ a))) H) : r_ge (.int a) (.int b) H Q := ⟨a, b, rfl, rfl, h⟩
theorem x_neg (h : Q (.int (-a)) H) : r_neg (.int a) H Q := ⟨a, rfl, h⟩
theorem x_eqI (h : Q (.bl (decide (a = b))) H) : rEq (.int a) (.int b) H Q := ⟨rfl, by
  have e : decide (V.int a = V.int b) = decide (a = b) := by simp
  rw [e]; exact h⟩
theorem x_neI (h : Q (.bl (!decide (a = b))) H) : rNe (.int a) (.int b) H Q := ⟨rfl, by
  have e : decide (V.int a = V.int b) = decide (a = b) := by simp
  rw [e]; exact h⟩
variable {x y : Str}
theorem x_eqS (h : Q (.bl (decide (x = y))) H) : rEq (.str x) (.str y) H Q := ⟨rfl, by
  have e : decide (V.str x = V.str y) = decide (x = y) := by simp
  rw [e]; exact h⟩
theorem x_neS (h : Q (.bl (!decide (x = y))) H) : rNe (.str x) (.str y) H Q := ⟨rfl, by
  have e : decide (V.str x = V.str y) = decide (x = y) := by simp
  rw [e]; exact h⟩
theorem x_eqV {p q : V} (e : scal p q = true) (h : Q (.bl (decide (p = q))) H) : rEq p q H Q := ⟨e, h⟩
theorem x_neV {p q : V} (e : scal p q = true) (h : Q (.bl (!decide (p = q))) H) : rNe p q H Q := ⟨e, h⟩
theorem x_cat (e : x.length + y.length ≤ sizeLine) (h : Q (.str (x ++ y)) H) : r_cat (.str x) (.str y) H Q := ⟨x, y, rfl, rfl, e, h⟩
theorem x_isN {p : V} (h : Q (.bl (decide (p = .non))) H) : r_isN p .non H Q := ⟨rfl, h⟩
theorem x_notN {p : V} (h : Q (.bl (!decide (p = .non))) H) : r_notN p .non H Q := ⟨rfl, h⟩
theorem x_len {K : PySem.W.Frag} {p : Addr} {ys : List V} (e : SqL K H p ys) (h : Q (.int ys.length) H) : c_len K [.ref p] H Q := ⟨p, ys, rfl, .inl e, h⟩
theorem x_lenT {K : PySem.W.Frag} {p : Addr} {ys : List V} (e : SqT K H p ys) (h : Q (.int ys.length) H) : c_len K [.ref p] H Q := ⟨p, ys, rfl, .inr e, h⟩
theorem x_lenS (e : x.length ≤ sizeLine) (h : Q (.int x.length) H) : c_lenS [.str x] H Q := ⟨x, rfl, e, h⟩
theorem x_lenD {p : Addr} {kvs : List (Key × V)} (e : H p = some (.dK kvs)) (h : Q (.int kvs.length) H) : c_lenD [.ref p] H Q := ⟨p, kvs, rfl, e, h⟩
theorem x_min2 (h : Q (.int (if b < a then b else a)) H) : c_min2 [.int a, .int b] H Q := ⟨a, b, rfl, h⟩
theorem x_max2 (h : Q (.int (if b > a then b else a)) H) : c_max2 [.int a, .int b] H Q := ⟨a, b, rfl, h⟩
theorem x_list {K : PySem.W.Frag} {p : Addr} {ys : List V} (e : SqL K H p ys) (h : ∀ l, H l = none → Q (.ref l) (upd H l (.lst ys))) : c_list K [.ref p] H Q := ⟨p, ys, rfl, .inl e, h⟩
theorem x_listT {K : PySem.W.Frag} {p : Addr} {ys : List V} (e : SqT K H p ys) (h : ∀ l, H l = none → Q (.ref l) (upd H l (.lst ys))) : c_list K [.ref p] H Q := ⟨p, ys, rfl, .inr e, h⟩
theorem x_listD {p : Addr} {kvs : List (Key × V)} (e : Rd H p (.dK kvs)) (h : ∀ l, H l = none → Q (.ref l) (upd H l (.lst (kvs.map fun kv => kV kv.1)))) : c_listD [.ref p] H Q := ⟨p, kvs, rfl, e, h⟩
theorem x_dictD {p : Addr} {kvs : List (Key × V)} (e : Rd H p (.dK kvs)) (h : ∀ l, H l = none → Q (.ref l) (upd H l (.dK kvs))) : c_dictD [.ref p] H Q := ⟨p, kvs, rfl, e, h⟩
theorem x_intB {k : Bool} (h : Q (.int (if k then 1 else 0)) H) : c_int [.bl k] H Q := .inr ⟨k, rfl, h⟩
theorem x_strI (e : a.natAbs.log2 < 1920) (h : Q (.str (toString a)) H) : c_strI [.int a] H Q := ⟨a, rfl, e, h⟩
theorem x_ixL {K : PySem.W.Frag} {p : Addr} {xs : List V} {v : V} (e : SqL K H p xs) (e2 : atI xs a = some v) (h : Q v H) : rIxL K (.ref p) (.int a) H Q := ⟨p, xs, a, v, rfl, rfl, e, e2, h⟩
theorem x_ixT {K : PySem.W.Frag} {p : Addr} {xs : List V} {v : V} (e : SqT K H p xs) (e2 : atI xs a = some v) (h : Q v H) : rIxT K (.ref p) (.int a) H Q := ⟨p, xs, a, v, rfl, rfl, e, e2, h⟩
theorem x_ixS {c : Nat} (e : x.length ≤ sizeLine) (e2 : atI x.cps.toList a = some c) (h : Q (.str ⟨#[c]⟩) H) : rIxS (.str x) (.int a) H Q := ⟨x, a, c, rfl, rfl, e, e2, h⟩
theorem x_slL {K : PySem.W.Frag} {p : Addr} {xs : List V} {lo hi : Option Int} (e : SqL K H p xs) (h : ∀ l, H l = none → Q (.ref l) (upd H l (.lst (cutV xs lo hi)))) : rSlL K (.ref p) lo hi H Q := ⟨p, xs, rfl, e, h⟩
theorem x_slS {lo hi : Option Int} (e : x.length ≤ sizeLine) (h : Q (.str (cutS x lo hi)) H) : rSlS (.str x) lo hi H Q := ⟨x, rfl, e, h⟩
theorem x_in {K : PySem.W.Frag} {p : Addr} {xs : List V} (e : SqL K H p xs) (e1 : flatV v = true) (e2 : xs.all flatV = true) (h : Q (.bl (inV v xs)) H) : rIn K false v (.ref p) H Q := ⟨p, xs, rfl, .inl e, e1, e2, h⟩
theorem x_ni {K : PySem.W.Frag} {p : Addr} {xs : List V} (e : SqL K H p xs) (e1 : flatV v = true) (e2 : xs.all flatV = true) (h : Q (.bl (!inV v xs)) H) : rIn K true v (.ref p) H Q := ⟨p, xs, rfl, .inl e, e1, e2, h⟩
theorem x_inC {c : Nat} (h : Q (.bl (decide (c ∈ x.cps.toList))) H) : r_inC (.str ⟨#[c]⟩) (.str x) H Q := ⟨c, x, rfl, rfl, h⟩
theorem x_niC {c : Nat} (h : Q (.bl (!decide (c ∈ x.cps.toList))) H) : r_niC (.str ⟨#[c]⟩) (.str x) H Q := ⟨c, x, rfl, rfl, h⟩
theorem x_isi {K : PySem.W.Frag} {p q : V} {t u : Value} {k : Bool} (e1 : ClsV q u) (e2 : TyX K H p t) (e3 : PySem.W.kitOne K t u = some k) (h : Q (.bl k) H) : rIsi K [p, q] H Q := ⟨p, q, t, u, k, rfl, e1, e2, e3, h⟩
end
theorem x_ite {b : Bool} {A B : Prop} (h1 : b = true → A) (h2 : b = false → B) : if b = true then A else B := by
  cases b with
  | true => exact iteT (h1 rfl)
  | false => exact iteF (h2 rfl)
end Kr
namespace Kr
open PySem PySem.Spec PyProof.Rows L2
/-! ### sets of texts: set(xs), sorted of it. The road is the hand layer's for sets of ints, turned to texts of any number. -/
def keyT (e : Int × Value) : Str := match e.2 with | .str x _ => x | _ => Str.empty
def GoodT (w : World) (e : Int × Value) : Prop := ∃ x tk, e.2 = Value.str x tk ∧ e.1 = hashStr w x
/-- the set of texts at a: S its members, n their number -/
def SetT (w : World) (h : Heap) (a : Addr) (S : Str → Bool) (n : Nat) : Prop :=
  ∃ o es ep t, h.get? a = some o ∧ o.ExactSet ∧ o.data = .set es ep t ∧ (∀ e ∈ es.toList, GoodT w e) ∧ (es.toList.map keyT).Nodup ∧ (∀ k, S k = true ↔ k ∈ es.toList.map keyT) ∧
    es.size < scanBound ∧ t.fits es.size = true ∧ es.size = n ∧ Ris t.place.toList ∧ (w.params.followText "set-order" = true ∨ t.led = true)
section
variable {P : Program} {w : World} {h h' : Heap} {a : Addr} {S : Str → Bool} {n : Nat}
theorem SetT.at (R : SetT w h a S n) (k : ∀ o, h.get? a = some o → h'.get? a = some o) : SetT w h' a S n := by
  obtain ⟨o, es, ep, t, ho, r⟩ := R
  exact ⟨o, es, ep, t, k o ho, r⟩
theorem SetT.congr {S' : Str → Bool} {m : Nat} (R : SetT w h a S n) (e : ∀ k, S' k = S k) (em : n = m) : SetT w h a S' m := by
  have q : S' = S := funext e
  subst em
  rw [q]; exact R
theorem goodT_elems {l : List (Int × Value)} (g : ∀ e ∈ l, GoodT w e) : ElemsOf (PySem.strKind P w) l := fun e he => by
  obtain ⟨k, tk, h1, h2⟩ := g e he
  exact ⟨⟨k, by rw [h1]; exact strKind_is P w k tk, h2⟩, by rw [h1] <;> rfl⟩
theorem goodT_is {e : Int × Value} (g : GoodT w e) (k : Str) : (PySem.strKind P w).is k e.2 = true ↔ keyT e = k := by
  obtain ⟨k0, tk, h1, _⟩ := g
  unfold keyT
  rw [h1]
  show ((k0 == k) = true) ↔ k0 = k
  exact beq_iff_eq
theorem goodT_mem {l : List (Int × Value)} (g : ∀ e ∈ l, GoodT w e) (k : Str) : k ∈ l.map keyT ↔ ∃ e ∈ l, (PySem.strKind P w).is k e.2 = true := by
  rw [List.mem_map]
  constructor
  · rintro ⟨e, he, q⟩
    exact ⟨e, he, (goodT_is (g e he) k).2 q⟩
  · rintro ⟨e, he, q⟩
    exact ⟨e, he, (goodT_is (g e he) k).1 q⟩
end
section
variable {P : Program} {w : World} {A : Around} {E : Value → Shared → Prop} {s : Shared} {a : Addr} {S : Str → Bool} {n : Nat}
theorem setT_tail {g : Bool → Sem Unit} (hg : ∀ (b : Bool) (s₁ : Shared) (Q' : Unit → Shared → Prop), Q' () s₁ → wpAny (model P w) A (g b) Q' E s₁)
    {o : Obj} {es : Array (Int × Value)} {ep : Nat} {t : SetTable} (ho : s.heap.get? a = some o) (hex : o.ExactSet) (hd : o.data = .set es ep t)
    {es1 : Array (Int × Value)} {t2 : SetTable} {S' : Str → Bool} (g1 : ∀ e ∈ es1.toList, GoodT w e) (nd1 : (es1.toList.map keyT).Nodup) (m1 : ∀ k, S' k = true ↔ k ∈ es1.toList.map keyT)
    (hb1 : es1.size < scanBound) (hf2 : t2.fits es1.size = true) (hr : Ris t2.place.toList) (hl : w.params.followText "set-order" = true ∨ t2.led = true) {wasDummy : Bool} {R : Option Bool → Shared → Prop}
    (hR : ∀ h', Heap.SameBut a s.heap h' → SetT w h' a S' es1.size → R (some true) { s with heap := h' }) :
    wpAny (model P w) A (do
        storeSet a es1 t2
        if (!wasDummy && t2.tooFull) = true then do
            g (relayAll t2 es1 (SetTable.grown es1.size)).2.2
            storeSet a (relayAll t2 es1 (SetTable.grown es1.size)).1 (relayAll t2 es1 (SetTable.grown es1.size)).2.1
            pure (some true)
          else pure (some true)) R E s := by
  refine wpAny_bind (wpAny_storeSet_of ho hd ?_ (fits_of_scanBound hb1))
  have ho1 := store_at (es' := es1) (t' := t2) ho hd
  have sb1 := Heap.SameBut.update s.heap a (Obj.putSet es1 t2)
  split
  · have pm := relayAll_perm t2 es1 (SetTable.grown es1.size)
    have hf3 := relayAll_fits t2 es1 (SetTable.grown es1.size)
    have hr3 := relayAll_ris t2 es1 (SetTable.grown es1.size)
    have hl3 := relayAll_led t2 es1 (SetTable.grown es1.size)
    generalize relayAll t2 es1 (SetTable.grown es1.size) = Z at pm hf3 hr3 hl3 ⊢
    obtain ⟨es2, t3, gave⟩ := Z
    dsimp only at pm hf3 hr3 hl3 ⊢
    have hsz : es2.size = es1.size := by rw [← Array.length_toList, pm.length_eq, Array.length_toList]
    have hb2 : es2.size < scanBound := by rw [hsz]; exact hb1
    refine wpAny_bind (hg _ _ _ ?_)
    refine wpAny_bind (wpAny_storeSet_of ho1 rfl ?_ (fits_of_scanBound hb2))
    have ho2 := store_at (es' := es2) (t' := t3) ho1 rfl
    refine wpAny_pure (hR _ (sb1.trans (Heap.SameBut.update _ a _)) ?_)
    exact ⟨_, es2, _, t3, ho2, hex, rfl, fun e he => g1 e (pm.mem_iff.mp he), (pm.map keyT).nodup_iff.mpr nd1, fun k => (m1 k).trans (pm.map keyT).mem_iff.symm, hb2, hf3, hsz, hr3,
      hl.imp id fun z => by rw [hl3]; exact z⟩
  · exact wpAny_pure (hR _ sb1 ⟨_, es1, _, t2, ho1, hex, rfl, g1, nd1, m1, hb1, hf2, rfl, hr, hl⟩)
theorem setT_add {k : Str} {tk : Tok} {Q : Bool → Shared → Prop} (R : SetT w s.heap a S n) (room : n + 1 < scanBound)
    (hQ : ∀ h', Heap.SameBut a s.heap h' → SetT w h' a (fun j => S j || decide (j = k)) (if S k = true then n else n + 1) → Q (!S k) { s with heap := h' }) :
    wpAny (model P w) A (setAddHashed a (.str k tk) ((PySem.strKind P w).hash k)) Q E s := by
  obtain ⟨o, es, ep, t, ho, hex, hd, g, nd, hm, hb, hf, hn, hr, hl⟩ := R
  have hkey : (PySem.strKind P w).is k (.str k tk) = true := strKind_is P w k tk
  have hsc : (Value.str k tk).scannable = true := rfl
  have hel : ElemsOf (PySem.strKind P w) es.toList := goodT_elems g
  unfold setAddHashed setAddHashedIn
  refine wpAny_holding (wpAny_bind (wpAny_setState_of ho hd hf ?_))
  dsimp only
  rw [byScan_of hsc hb hel]
  simp only [↓reduceIte]
  unfold setAddByScan
  refine wpAny_bind ?_
  refine wpAny_bind (wpAny_rule ?_)
  refine wpAny_bind (wpAny_setScan_of hkey ho hd hf hel ?_)
  cases hfi : List.findIdx? (fun e => (PySem.strKind P w).is k e.2) es.toList with
  | some j =>
    dsimp only
    obtain ⟨hj, pj, _⟩ := List.findIdx?_eq_some_iff_getElem.mp hfi
    have hSk : S k = true := (hm k).2 ((goodT_mem (P := P) (w := w) g k).2 ⟨es.toList[j], List.getElem_mem hj, pj⟩)
    refine wpAny_pure (wpAny_pure ?_)
    have q := hQ s.heap (Heap.SameBut.refl a s.heap) ⟨o, es, ep, t, ho, hex, hd, g, nd, fun i => by
      rw [Bool.or_eq_true, decide_eq_true_eq, ← hm i]
      exact ⟨fun z => z.elim id (fun e => e ▸ hSk), .inl⟩, hb, hf, by rw [if_pos hSk]; exact hn, hr, hl⟩
    rw [hSk] at q
    exact q
  | none =>
    dsimp only
    have hnk : k ∉ es.toList.map keyT := fun z => by
      obtain ⟨e, he, q⟩ := (goodT_mem (P := P) (w := w) g k).1 z
      have c := List.findIdx?_eq_none_iff.mp hfi e he
      rw [q] at c
      cases c
    have hSk : S k = false := by
      cases q : S k with
      | false => rfl
      | true => exact absurd ((hm k).1 q) hnk
    have hgw : ∀ (b : Bool) {s₁ : Shared} {Q' : Unit → Shared → Prop}, Q' () s₁ → wpAny (model P w) A (match b with | true => rule "set.scan.the-table-gave-way" | false => pure ()) Q' E s₁ :=
      fun b s₁ Q' q => by cases b <;> first | exact wpAny_pure q | exact wpAny_rule q
    have pm := layNew_perm t es ((PySem.strKind P w).hash k) (.str k tk)
    have hf1 := layNew_fits t es ((PySem.strKind P w).hash k) (.str k tk)
    have hr1 := layNew_ris t es ((PySem.strKind P w).hash k) (.str k tk) hr
    have hl1 := layNew_led t es ((PySem.strKind P w).hash k) (.str k tk)
    generalize layNew t es ((PySem.strKind P w).hash k) (.str k tk) = Z at pm hf1 hr1 hl1 ⊢
    obtain ⟨es1, t1, wasDummy, gave⟩ := Z
    dsimp only at pm hf1 hr1 hl1 ⊢
    rw [Array.toList_push] at pm
    have pc : es1.toList.Perm (((PySem.strKind P w).hash k, Value.str k tk) :: es.toList) := pm.trans (List.perm_append_singleton _ _)
    have pk : (es1.toList.map keyT).Perm (k :: es.toList.map keyT) := pc.map keyT
    have g1 : ∀ e ∈ es1.toList, GoodT w e := fun e he => by
      rcases List.mem_cons.mp (pc.mem_iff.mp he) with z | z
      · rw [z]; exact ⟨k, tk, rfl, rfl⟩
      · exact g e z
    have nd1 : (es1.toList.map keyT).Nodup := pk.nodup_iff.mpr (List.nodup_cons.mpr ⟨hnk, nd⟩)
    have m1 : ∀ i, (S i || decide (i = k)) = true ↔ i ∈ es1.toList.map keyT := fun i => by
      rw [Bool.or_eq_true, decide_eq_true_eq, hm i, pk.mem_iff, List.mem_cons]
      exact Or.comm
    have hsz : es1.size = n + 1 := by rw [← Array.length_toList, pc.length_eq, List.length_cons, Array.length_toList, hn]
    have hb1 : es1.size < scanBound := by rw [hsz]; exact room
    have hled : w.params.followText "set-order" = true ∨ t1.led = true := hl.imp id fun z => by rw [hl1]; exact z
    have fin : ∀ h', Heap.SameBut a s.heap h' → SetT w h' a (fun j => S j || decide (j = k)) es1.size → Q true { s with heap := h' } := fun h' sb r => by
      have q := hQ h' sb
      rw [hSk] at q
      rw [hsz] at r
      exact q r
    refine wpAny_bind (hgw _ ?_)
    split
    · refine wpAny_bind ?_
      rw [hashByValue_scannable 8 hsc]
      refine wpAny_pure ?_
      refine setT_tail ?_ ho hex hd g1 nd1 m1 hb1 ?_ ?_ ?_ ?_
      · intro b s₁ Q' q; cases b <;> first | exact wpAny_pure q | exact wpAny_rule q
      · first | (split <;> first | exact hf1 | exact SetTable.fits_plain_off hf1) | exact hf1
      · first | (split <;> exact hr1) | exact hr1
      · first | (split <;> exact hled) | exact hled
      · intro h' sb r; dsimp only; exact wpAny_pure (fin h' sb r)
    · refine wpAny_bind (wpAny_pure ?_)
      simp only [↓reduceIte]
      refine setT_tail ?_ ho hex hd g1 nd1 m1 hb1 hf1 hr1 hled ?_
      · intro b s₁ Q' q; cases b <;> first | exact wpAny_pure q | exact wpAny_rule q
      · intro h' sb r; dsimp only; exact wpAny_pure (fin h' sb r)
end
section
variable {prog : Program} {w : World} {A : Around} {R : Result → Shared → Prop} {I : Addr} {fp wr : List Addr} {G : Array GenState → Array GenState → Prop} {n : Nat} {P : Nat → Value → Prop} {St : Nat → Shared → Prop}
/-- how many have been met -/
def metN (xs : List Str) : Nat → Nat
  | 0 => 0
  | i + 1 => if (xs.take i).any (· == xs.getD i Str.empty) = true then metN xs i else metN xs i + 1
theorem metN_le (xs : List Str) : ∀ i, metN xs i ≤ i
  | 0 => Nat.le_refl 0
  | i + 1 => by
    have := metN_le xs i
    unfold metN
    split <;> omega
theorem any_take {xs : List Str} {i : Nat} (hi : i < xs.length) (k : Str) : (xs.take (i + 1)).any (· == k) = ((xs.take i).any (· == k) || decide (k = xs.getD i Str.empty)) := by
  rw [List.take_add_one, List.getElem?_eq_getElem hi, List.any_append]
  have e : xs.getD i Str.empty = xs[i] := by simp [List.getD, hi]
  rw [e]
  congr 1
  show ([xs[i]].any fun x => x == k) = decide (k = xs[i])
  by_cases q : k = xs[i]
  · subst q; simp
  · have hb : (xs[i] == k) = false := by simpa using fun z : xs[i] = k => q z.symm
    simp [hb, q]
theorem loopT (W : WalksS prog w A.in1 I fp wr G n P St) (S : Addr) (hSf : S ∉ fp) (xs : List Str) (hsz : xs.length = n) (hn1 : n + 1 < scanBound)
    (hval : ∀ i v, P i v → ∃ t, v = .str (xs.getD i Str.empty) t) :
    ∀ (k i : Nat) (s : Shared), n - i = k → i ≤ n → St i s →
      SetT w s.heap S (fun k' => (xs.take i).any (· == k')) (metN xs i) →
      (∀ s', Moved (S :: wr) G s s' → SetT w s'.heap S (fun k' => (xs.take n).any (· == k')) (metN xs n) → R (.ok (.ret .none)) s') →
      codeAny (model prog w) A (.builtin "set.update.loop" ⟨[.ref S, .ref I], []⟩) R s := by
  have hSw : S ∉ wr := fun h => hSf (W.sub _ h)
  have hsub : ∀ b ∈ wr, b ∈ S :: wr := fun b hb => List.mem_cons_of_mem _ hb
  intro k
  induction k with
  | zero =>
    intro i s hk hi hst hS hR
    have hin : i = n := by omega
    subst hin
    refine codeAny_builtin PyProof.Rows.F.entry_set_update_loop ?_
    rw [Around.under_plainId PyProof.Rows.F.plain_set_update_loop _]
    show wpAny _ A.in1 (pyNext (.ref I) >>= _) _ _ s
    refine wpAny_bind (W.done s _ _ hst fun s' hm => ?_)
    show wpAny _ A.in1 (ret Value.none) _ _ s'
    exact wpAny_pure (hR s' (hm.mono hsub) (hS.at fun o ho => hm.heap S _ hSw ho))
  | succ k ih =>
    intro i s hk hi hst hS hR
    have hlt : i < n := by omega
    refine codeAny_builtin PyProof.Rows.F.entry_set_update_loop ?_
    rw [Around.under_plainId PyProof.Rows.F.plain_set_update_loop _]
    show wpAny _ A.in1 (pyNext (.ref I) >>= _) _ _ s
    refine wpAny_bind (W.item i s _ _ hlt hst fun v s' hP hst' hm => ?_)
    obtain ⟨t, rfl⟩ := hval i v hP
    have hS' : SetT w s'.heap S (fun k' => (xs.take i).any (· == k')) (metN xs i) := hS.at fun o ho => hm.heap S _ hSw ho
    show wpAny _ A.in1 (holding [Value.str (xs.getD i Str.empty) t] (setAdd S (.str (xs.getD i Str.empty) t)) >>= _) _ _ s'
    refine wpAny_bind (wpAny_holding ?_)
    unfold setAdd
    refine wpAny_holding ?_
    refine wpAny_bind ((PySem.strKind prog w).pyHash (k := xs.getD i Str.empty) (strKind_is _ _ _ _) ?_)
    have hle := metN_le xs i
    refine setT_add (s := { s' with toks := s'.toks + 1 }) hS' (by omega) fun h' hsb hS2 => ?_
    have hSi : SetT w h' S (fun k' => (xs.take (i + 1)).any (· == k')) (metN xs (i + 1)) := hS2.congr (fun k' => any_take (by omega) k') rfl
    refine wpAny_pure ⟨plainId_quiet PyProof.Rows.F.plain_set_update_loop _, ih (i + 1) _ (by omega) hlt (W.frame _ s' _ _ hst' (Nat.le_succ _) fun b hb o e => ?_) hSi fun s'' hm'' hS'' => ?_⟩
    · rw [hsb.2 b (fun h : b = S => hSf (by rw [← h]; exact hb))]; exact e
    · refine hR s'' (Moved.trans W.gtrans ((hm.mono hsub).then_heap (Nat.le_succ _) fun b o hb e => ?_) hm'') hS''
      rw [hsb.2 b (fun h : b = S => hb (by rw [h]; exact List.mem_cons_self))]; exact e
end
section
variable {prog : Program} {w : World} {A : Around} {E : Value → Shared → Prop} {s : Shared}
theorem code_set_new_led1 (a : Value) {Q₁ : Value → Shared → Prop}
    (h : Q₁ (.ref s.heap.objs.size) { s with heap := s.heap.push { cls := .type "set", dict := none, data := .set #[] 0 (.fresh 0 0 (!w.params.followText "set-order")) } }) :
    codeAny (model prog w) A (.call (.builtin "set.__new__") ⟨[.type "set", a], []⟩) (wants Q₁ E) s := by
  refine codeAny_of_tree ?_
  show wpAny _ A.in1 (do checkBuiltinCall "set.__new__" ⟨[.type "set", a], []⟩; again (.builtin "set.__new__" ⟨[.type "set", a], []⟩)) _ _ s
  refine wpAny_bind (wpAny_of_eq (F.newCall_set_1 a) (wpAny_pure ⟨plainId_quiet F.plain_set_new _, codeAny_builtin F.entry_set_new ?_⟩))
  rw [Around.under_plainId F.plain_set_new _]
  unfold Builtin.«set.__new__» Builtin.Frozenset.newClass
  have hsub := sub_set_self
  obtain ⟨hp, g, d, tk, os⟩ := s
  dsimp only
  wp_walk
  refine wpAny_askSetting (wpAny_pure ?_)
  dsimp only
  simp only [newObj]
  refine wpAny_bind (wpAny_alloc (wpAny_pure ?_))
  exact wpAny_pure h
set_option maxHeartbeats 3200000 in
/-- set(xs) of a list of texts -/
theorem call_setT {l : Addr} {items : Array Value} {xs : List Str} {Q : Value → Shared → Prop}
    (hh : A.handled = none) (hl : s.heap.IsList l items) (hi : PyProof.Rows.StrsAre items.toList xs) (hn1 : xs.length + 1 < scanBound)
    (h : ∀ (h' : Heap) (tk : Nat), SetT w h' s.heap.objs.size (fun k' => xs.any (· == k')) (metN xs xs.length) →
      (∀ b o, b < s.heap.objs.size → s.heap.get? b = some o → h'.get? b = some o) → Q (.ref s.heap.objs.size) { s with heap := h', toks := tk }) :
    wpAny (model prog w) A (call (.type "set") [.ref l]) Q E s := by
  have hsz : xs.length = items.size := by rw [← StrsAre.len_eq hi, Array.length_toList]
  obtain ⟨c, tl, hmro⟩ := PySem.F.called_set.mro
  have hmade := PySem.F.called_set.made
  have hsub := PySem.F.called_set.sub
  refine wpAny_call (codeAny_of_tree ?_)
  show wpAny _ _ (callAny (.type "set") _) _ _ _
  refine wpAny_pure ⟨Code.quiet_builtin _ (by decide +kernel), codeAny_builtin PySem.F.entry_type_call ?_⟩
  rw [Around.under_plain (weight_type_call_type "set" [.ref l] []) rfl]
  have h1 := PySem.F.called_set.notType
  have h2 := PySem.F.called_set.canCreate
  have hct := PySem.F.typeCall_set_1 (.ref l)
  repeat (any_goals (first | assumption | wp_step))
  refine codeAny_mono (code_set_new_led1 (.ref l) (E := E) (Q₁ := fun obj s₁ => obj = .ref s.heap.objs.size ∧ s₁ = { s with heap := s.heap.push { cls := .type "set", dict := none, data := .set #[] 0 (.fresh 0 0 (!w.params.followText "set-order")) } }) ⟨rfl, rfl⟩) fun r s₁ hr => ?_
  cases r with
  | error e => exact hr
  | ok fl =>
    cases fl with
    | ret obj =>
      obtain ⟨rfl, rfl⟩ := hr
      have hS : (s.heap.push { cls := .type "set", dict := none, data := .set #[] 0 (.fresh 0 0 (!w.params.followText "set-order")) }).get? s.heap.objs.size = some { cls := .type "set", dict := none, data := .set #[] 0 (.fresh 0 0 (!w.params.followText "set-order")) } := Heap.get?_push_size _ rfl
      have hT : Shared.TypeIs { s with heap := s.heap.push { cls := .type "set", dict := none, data := .set #[] 0 (.fresh 0 0 (!w.params.followText "set-order")) } } (.ref s.heap.objs.size) "set" := ⟨_, hS, rfl⟩
      have hli := PySem.F.called_set.init.lookup
      have hbi := PySem.F.called_set.init.bind (.ref s.heap.objs.size)
      repeat (any_goals (first | assumption | wp_step))
      refine codeAny_mono (codeAny_call_builtin (R := wants (fun r s₂ => r = .none ∧ ∃ h' tk, s₂ = { s with heap := h', toks := tk } ∧
          SetT w h' s.heap.objs.size (fun k' => xs.any (· == k')) (metN xs xs.length) ∧
          (∀ b o, b < s.heap.objs.size → s.heap.get? b = some o → h'.get? b = some o)) E) PySem.F.called_set.init.plain PySem.F.entry_set_init (check_set_init_1 hT ?_)) fun r₂ s₂ hr₂ => ?_
      · obtain ⟨ol, hol, hcl, nl, hdl⟩ := hl
        obtain ⟨ocls, odict, odata, oslots⟩ := ol
        simp only at hcl hdl
        subst hcl; subst hdl
        have hol' : (s.heap.push { cls := .type "set", dict := none, data := .set #[] 0 (.fresh 0 0 (!w.params.followText "set-order")) }).get? l = some { cls := .type "list", dict := odict, data := .seq items nl, slots := oslots } := Heap.get?_push_of_some _ hol
        have hsls := PySem.F.sub_list_set
        have hslf := PySem.F.sub_list_frozenset
        have hne : (Value.type "list" == Value.type "dict") = false := by decide
        have hl1 : (s.heap.push { cls := .type "set", dict := none, data := .set #[] 0 (.fresh 0 0 (!w.params.followText "set-order")) }).IsList l items := ⟨_, hol', rfl, nl, rfl⟩
        unfold Builtin.«set.__init__» noKeywords Builtin.Frozenset.updateFrom
        generalize hPI : pyIter = PI
        wp_walk
        subst hPI
        refine wpAny_pyIter_list hl1 ?_
        refine wpAny_bind (wpAny_runValue ?_)
        have hlS : l < s.heap.objs.size := Heap.lt_size hol
        have hh3 : A.in1.in1.in1.handled = none := by simp [hh]
        have hneI : l ≠ (s.heap.push { cls := .type "set", dict := none, data := .set #[] 0 (.fresh 0 0 (!w.params.followText "set-order")) }).objs.size := by
          rw [Heap.size_push]; exact Nat.ne_of_lt (Nat.lt_succ_of_lt hlS)
        have hSf : s.heap.objs.size ∉ [(s.heap.push { cls := .type "set", dict := none, data := .set #[] 0 (.fresh 0 0 (!w.params.followText "set-order")) }).objs.size, l] := by
          rw [Heap.size_push]; simp only [List.mem_cons, List.mem_singleton, List.not_mem_nil, or_false, not_or]
          exact ⟨Nat.ne_of_lt (Nat.lt_succ_self _), Nat.ne_of_gt hlS⟩
        have hval : ∀ (i : Nat) (v : Value), items[i]? = some v → ∃ t, v = .str (xs.getD i Str.empty) t := fun i v hv => SS.strs_at hi i v (by rw [Array.getElem?_toList]; exact hv)
        refine loopT ((Walks.list hh3 _ l hneI items).toS) s.heap.objs.size
          hSf xs hsz (by rw [← hsz]; exact hn1) hval (items.size - 0) 0 _ (by omega) (Nat.zero_le _)
          ⟨⟨_, Heap.get?_push_size _ rfl, rfl, rfl⟩, (hl1.push _)⟩ ?hS0 ?hR
        case hS0 =>
          have z : SetT w (s.heap.push { cls := .type "set", dict := none, data := .set #[] 0 (.fresh 0 0 (!w.params.followText "set-order")) }) s.heap.objs.size (fun _ => false) 0 :=
            ⟨_, #[], 0, _, hS, ⟨rfl, rfl, rfl⟩, rfl, (fun e he => by simp at he), (by simp), (fun k => by simp), (by decide), (by rfl), rfl, List.Pairwise.nil, by
              show _ ∨ (!w.params.followText "set-order") = true
              cases w.params.followText "set-order"
              · exact .inr rfl
              · exact .inl rfl⟩
          exact (z.at fun o ho => Heap.get?_push_of_some _ ho).congr (fun _ => rfl) rfl
        case hR =>
          intro s' hm hS'
          rw [← hsz, List.take_length] at hS'
          obtain ⟨h', g', d', tk', os'⟩ := s'
          have eg : g' = s.gens := hm.gens
          have ed : d' = s.drawn := hm.drawn
          have eo : os' = s.os := hm.os
          subst eg; subst ed; subst eo
          show wpAny _ _ _ _ _ _
          refine wpAny_pure ?_
          show wpAny _ _ (ret Value.none) _ _ _
          refine wpAny_pure ⟨rfl, h', tk', rfl, hS', fun b o hb e => ?_⟩
          have hb1 : b ≠ s.heap.objs.size := Nat.ne_of_lt hb
          have hb2 : b ≠ (s.heap.push { cls := .type "set", dict := none, data := .set #[] 0 (.fresh 0 0 (!w.params.followText "set-order")) }).objs.size := by
            rw [Heap.size_push]; exact Nat.ne_of_lt (Nat.lt_succ_of_lt hb)
          exact hm.heap b o (by simp only [List.mem_cons, List.mem_singleton, List.not_mem_nil, or_false, not_or]; exact ⟨hb1, hb2⟩) (Heap.get?_push_of_some _ (Heap.get?_push_of_some _ e))
      · cases r₂ with
        | error e => exact hr₂
        | ok fl₂ =>
          cases fl₂ with
          | ret r =>
            obtain ⟨rfl, h', tk, rfl, hS', hk'⟩ := hr₂
            repeat (any_goals (first | assumption | wp_step))
            exact h _ _ hS' hk'
          | _ => exact hr₂.elim
    | _ => exact hr.elim
theorem strsT_of : ∀ (l : List Value), (∀ v ∈ l, ∃ k tk, v = Value.str k tk) → StrsAre l (l.map fun v => match v with | .str x _ => x | _ => Str.empty)
  | [], _ => .nil
  | v :: l, h => by
    obtain ⟨k, tk, rfl⟩ := h v List.mem_cons_self
    exact .cons k tk (strsT_of l fun u hu => h u (List.mem_cons_of_mem _ hu))
/-- sorted(the set at a) -/
theorem sorted_setT {a : Addr} {S : Str → Bool} {n : Nat} {Q : Value → Shared → Prop} (R : SetT w s.heap a S n) (hh : A.handled = none)
    (hQ : ∀ s' p (out : Array Value) (c : Nat) (ns : List Str), (∀ b o, s.heap.get? b = some o → s'.heap.get? b = some o) → s'.gens = s.gens → s'.os = s.os → s.heap.objs.size ≤ p →
      s'.heap.get? p = some (seqObj "list" out c) → StrsAre out.toList ns → sortedS ns = true → ns.Nodup → (∀ k, k ∈ ns ↔ S k = true) → ns.length = n → Q (.ref p) s') :
    wpAny (model prog w) A (call (.builtin "sorted") [.ref a]) Q E s := by
  obtain ⟨o, es, ep, t, ho, hex, hd, g, nd, hm, hb, hf, hn, hr, hl⟩ := R
  refine Calls.call_function_entry kind_sorted plain_sorted entry_sorted (args_sorted1 _) ?_
  unfold Builtin.«sorted»
  refine wpAny_bind (m := checkCount "sorted" 1 1 _) (wpAny_pure ?_)
  refine wpAny_bind (collect_set (A := A.in1) hh ⟨o, ho, hex.1, hd⟩ hf hb hr hl fun s1 vs k1 hz g1 o1 pm => ?_)
  have hvl : vs.length = n := by rw [pm.length_eq, List.length_map, Array.length_toList]; exact hn
  have hI := strsT_of vs fun v hv => by
    obtain ⟨e, he, q⟩ := List.mem_map.mp (pm.mem_iff.mp hv)
    obtain ⟨k, tk, h1, _⟩ := g e he
    exact ⟨k, tk, by rw [← q]; exact h1⟩
  have pk : (vs.map fun v => match v with | .str x _ => x | _ => Str.empty).Perm (es.toList.map keyT) := by
    have q := pm.map fun v : Value => match v with | .str x _ => x | _ => Str.empty
    rw [List.map_map] at q
    exact q
  have hL : vs.length ≤ sizeLine := by rw [hvl, sizeLine_eq, ← hn]; unfold scanBound at hb; omega
  refine wpAny_bind (wpAny_newList ?_ hL)
  have hoL : (s1.heap.push (seqObj "list" vs.toArray 0)).get? s1.heap.objs.size = some (seqObj "list" vs.toArray 0) := Heap.get?_push_size _ rfl
  refine wpAny_bind (wpAny_holding (wpAny_call_entry slot_list_sort ⟨_, hoL, rfl⟩ entry_list_sort
    (list_sort_treeKAny strKind_oneLt (s := { s1 with heap := s1.heap.push (seqObj "list" vs.toArray 0) }) hoL hI.keysOf (fun v₁ v₂ rest e => keyKind_strs (by rw [← e]; exact hI)) hL fun st' hp hs => ⟨_, rfl, ?_⟩) (args_list_sort _)))
  obtain ⟨ys, q1, q2, q3⟩ := sorted_out_str hI hp hs
  obtain ⟨c, hc⟩ := sortedHeap_at (vs := vs) (out := (arrOf st').map (·.2)) hoL
  have pn : ys.Perm (es.toList.map keyT) := q2.trans pk
  refine wpAny_pure ⟨_, rfl, hQ _ s1.heap.objs.size _ c ys (fun b u e => ?_) g1 o1 hz hc q1 q3 (pn.nodup_iff.mpr nd) (fun k => by rw [pn.mem_iff, ← hm k]) ?_⟩
  · have q := k1 b u e
    have hlt := Heap.lt_size q
    show (sortedHeap (s1.heap.push (seqObj "list" vs.toArray 0)) s1.heap.objs.size vs _).get? b = some u
    rw [sortedHeap_old (Nat.ne_of_lt hlt) (by rw [size_push']; exact Nat.lt_succ_of_lt hlt)]
    exact Heap.get?_push_of_some _ q
  · rw [pn.length_eq, List.length_map, Array.length_toList]; exact hn
end
end Kr
namespace Kr
open PySem PySem.Spec L2
/-! ### further rules -/
/-- a list against the empty list that is written -/
def r_nil (K : PySem.W.Frag) : R2 := fun x y H Q => ∃ a b xs, x = .ref a ∧ y = .ref b ∧ SqL K H a xs ∧ H b = some (.lst []) ∧ Q (.bl xs.isEmpty) H
def r_nnil (K : PySem.W.Frag) : R2 := fun x y H Q => ∃ a b xs, x = .ref a ∧ y = .ref b ∧ SqL K H a xs ∧ H b = some (.lst []) ∧ Q (.bl (!xs.isEmpty)) H
theorem o_nil {X : Cx} (hu : X.A.units + 64 < cLine) : OpR X (compareOp .Eq) (r_nil X.K) := by
  intro pins s σ H x y v u Q I rx ry h
  obtain ⟨a, b, xs, rfl, rfl, ha, hb, q⟩ := h
  cases rx
  cases ry
  obtain ⟨its, rv, pa, hz⟩ := I.list ha
  obtain ⟨jts, rw', pb, hz2⟩ := I.list (SqL.of hb)
  have ej : jts = [] := by cases rw'; rfl
  subst ej
  have hl := rv.length
  have fin : EP X pins σ Q (.bool xs.isEmpty) s := ⟨.bl xs.isEmpty, H, I, rfl, q⟩
  cases xs with
  | nil =>
    have ei : its = [] := List.eq_nil_of_length_eq_zero hl.symm
    subst ei
    exact SeqAt.eq_listAt (e := fun _ => true) pa.isList pb.isList rfl (by omega) (fun j h1 _ => absurd h1 (by simp)) fin
  | cons z zs =>
    have hne : (its.toArray.size != ([] : List Value).toArray.size) = true := by
      rw [List.length_cons] at hl
      simp only [List.size_toArray, List.length_nil, bne_iff_ne, ne_eq]
      omega
    exact SeqAt.eq_list_lengthsAt pa.isList pb.isList hne (by omega) fin
theorem o_nnil {X : Cx} (hu : X.A.units + 64 < cLine) : OpR X (compareOp .NotEq) (r_nnil X.K) := by
  intro pins s σ H x y v u Q I rx ry h
  obtain ⟨a, b, xs, rfl, rfl, ha, hb, q⟩ := h
  cases rx
  cases ry
  obtain ⟨its, rv, pa, hz⟩ := I.list ha
  obtain ⟨jts, rw', pb, hz2⟩ := I.list (SqL.of hb)
  have ej : jts = [] := by cases rw'; rfl
  subst ej
  have hl := rv.length
  have fin : EP X pins σ Q (.bool (!xs.isEmpty)) s := ⟨.bl (!xs.isEmpty), H, I, rfl, q⟩
  cases xs with
  | nil =>
    have ei : its = [] := List.eq_nil_of_length_eq_zero hl.symm
    subst ei
    exact SeqAt.RcNeAt.lists (e := fun _ => true) pa.isList pb.isList rfl (by omega) (fun j h1 _ => absurd h1 (by simp)) X.prog X.w _ _ fin
  | cons z zs =>
    have hne : (its.toArray.size != ([] : List Value).toArray.size) = true := by
      rw [List.length_cons] at hl
      simp only [List.size_toArray, List.length_nil, bne_iff_ne, ne_eq]
      omega
    exact SeqAt.RcNeAt.lists_lengths pa.isList pb.isList hne (by omega) X.prog X.w _ _ fin
/-- a dict that is made in the walked expression itself: it is locked from then on -/
def tFreeze (td : TE) : TE := fun σ H Q => td σ H fun x H1 => ∃ d kvs, x = .ref d ∧ H1 d = some (.dK kvs) ∧ ∀ od, Q (.ref d) (upd H1 d (.frz od (.dK kvs)))
theorem pe_freeze {X : Cx} {e : Expr} {td : TE} (he : PE X e td) : PE X e (tFreeze td) := by
  refine ⟨fun pins s σ H Q I h => ?_⟩
  refine thn (he.run pins s σ H _ I h) fun v s1 ⟨x, H1, I1, r1, d, kvs, e1, hd, q⟩ => ?_
  subst e1
  obtain ⟨od, I2⟩ := I1.lock hd trivial
  exact ⟨.ref d, _, I2, r1, q od⟩
/-! ### sorted -/
def SortedOf (ys xs : List Str) : Prop := PyProof.Rows.sortedS ys = true ∧ ys.Nodup ∧ ∀ k, k ∈ ys ↔ k ∈ xs
def tSortSet (K : PySem.W.Frag) (te : TE) : TE := fun σ H Q => te σ H fun x H1 => ∃ a xs, x = .ref a ∧ SqL K H1 a (xs.map V.str) ∧ xs.length ≤ 4000 ∧ ∀ ys p, SortedOf ys xs → H1 p = none → Q (.ref p) (upd H1 p (.lst (ys.map V.str)))
theorem pe_sortSet {X : Cx} {e : Expr} {te : TE} {p p2 q pos : Pos} (hc : X.calm = true) (hg : Gl X "sorted") (hm : X.mg "sorted" = none) (hg2 : Gl X "set") (hm2 : X.mg "set" = none) (he : PE X e te)
    (na : starEach [e] X.env = (false, eval e X.env) :: starEach [] X.env := by rfl) : PE X (.Call (.Name "sorted" p) [.Call (.Name "set" p2) [e] [] q] [] pos) (tSortSet X.K te) := by
  refine ⟨fun pins s σ H Q I h => ?_⟩
  refine PyProof.Rows.Call_ (ld_blt I hg hm (by decide +kernel : bootBuiltins "sorted" = some (.builtin "sorted")) ?_)
  refine PyProof.Rows.callWith_builtin1 (PyProof.Rows.args_cons ?_ rfl) rfl rfl
  refine PyProof.Rows.Call_ (ld_blt I hg2 hm2 PyProof.Rows.boot_set ?_)
  refine PyProof.Rows.callWith_type1 (PyProof.Rows.args_cons (thn (he.run pins s σ H _ I h) fun v s1 ⟨x, H1, I1, r1, q1⟩ => PyProof.Rows.args_nil ?_) na) na rfl
  obtain ⟨l, xs, rfl, hq, h1, q1⟩ := q1
  cases r1
  obtain ⟨its, r, pl, hz⟩ := I1.list hq
  refine call_setT (I1.ok.hd hc) pl.isList (by simpa using strsAre_of r) (by unfold scanBound; omega) fun h' tk hS hk => PyProof.Rows.args_nil ?_
  have I2 : Inv X pins σ H1 { s1 with heap := h', toks := tk } := I1.kept fun b o e => hk b o (Heap.lt_size e) e
  refine sorted_setT (s := { s1 with heap := h', toks := tk }) hS (I1.ok.hd hc) fun s' p out c ns k g o hp hg' hi hs hnd hmem hl => ?_
  have hlen : (ns.map V.str).length ≤ sizeLine := by
    have := metN_le xs xs.length
    rw [List.length_map, hl, sizeLine_eq]; omega
  have hn : H1 p = none := I2.hok.fresh hp
  refine ⟨.ref p, _, I2.call' (H' := upd H1 p (.lst (ns.map V.str))) (ch := []) o (Un.laid k hp hn) (I2.hok.laid k hp (show ObjOk X.prog X.w _ _ _ (.lst (ns.map V.str)) from ⟨hlen, out.toList, c, vals_of_strs hi, by rw [Array.toArray_toList]; exact hg'⟩)) (by rw [g]; exact I2.bare) (fun _ z => nomatch z), rfl, q1 ns p ⟨hs, hnd, fun k => ?_⟩ hn⟩
  rw [hmem k, List.any_eq_true]
  exact ⟨fun ⟨y, hy, ey⟩ => by rw [← eq_of_beq ey]; exact hy, fun hy => ⟨k, hy, by simp⟩⟩
def c_sortedD : List V → Hp → VK → Prop := fun xs H Q => ∃ (a : Addr) (kvs : List (Key × V)) (ks : List Str), xs = [.ref a] ∧ Rd H a (.dK kvs) ∧ kvs.map (·.1) = ks.map Sum.inr ∧ ∀ (ys : List Str) (p : Addr), ys.Perm ks → PyProof.Rows.sortedS ys = true → H p = none → Q (.ref p) (upd H p (.lst (ys.map V.str)))
theorem k_sortedD {X : Cx} (hcalm : X.calm = true) : CallR X (.builtin "sorted") c_sortedD := by
  intro pins s σ H xs us Q I r q
  obtain ⟨a, kvs, ks, ex, hd, hks, q⟩ := q
  subst ex
  obtain ⟨u, eu, rx⟩ := vals1 r
  subst eu
  cases rx
  obtain ⟨z, lo, vs, rel, dd⟩ := dk_rd I.hok hd
  obtain ⟨ep, hat⟩ := dd.dictAt
  have hkeys : vs.map (·.1) = ks.map Sum.inr := rel.keys.symm.trans hks
  have hl : vs.length = ks.length := by
    have e := congrArg List.length hkeys
    rw [List.length_map, List.length_map] at e
    exact e
  have h16 : vs.length ≤ sizeLine := by rw [← rel.length]; exact z
  refine Calls.call_function_entry PyProof.Rows.kind_sorted PyProof.Rows.plain_sorted PyProof.Rows.entry_sorted (PyProof.Rows.args_sorted1 _) ?_
  unfold Builtin.«sorted»
  refine wpAny_bind (m := checkCount "sorted" 1 1 _) (wpAny_pure ?_)
  refine wpAny_bind (PySem.W.kdu_collect (A := X.A.in1) (PySem.W.kdl_dict (knd := mixKind X.prog X.w) (kvs := vs) (ep := ep) lo) (I.ok.hd hcalm) hat h16 fun h' tk acc hk hacc => ?_)
  have hal : acc.toList.length = ks.length := by rw [Array.length_toList, hacc.1, hl]
  have hS : PyProof.Rows.StrsAre acc.toList ks := strs_at hal fun j v e => by
    obtain ⟨k, x, e1, e2⟩ := hacc.2 j v (by rw [← Array.getElem?_toList]; exact e)
    have e3 : (vs.map (·.1))[j]? = some k := by rw [List.getElem?_map, e1]; all_goals rfl
    rw [hkeys, List.getElem?_map] at e3
    cases e4 : ks[j]? with
    | none => rw [e4] at e3; cases e3
    | some y =>
      rw [e4] at e3
      have e5 : Sum.inr y = k := Option.some.inj e3
      subst e5
      obtain ⟨t, ev⟩ := Value.isStrOf_shape (x := y) (v := v) e2
      exact ⟨y, t, rfl, ev⟩
  have I1 : Inv X pins σ H { s with heap := h', toks := tk } := I.kept hk
  have hL : acc.toList.length ≤ sizeLine := by rw [hal, ← hl]; exact h16
  refine wpAny_bind (wpAny_newList ?_ hL)
  have hoL : (h'.push (PyProof.Rows.seqObj "list" acc.toList.toArray 0)).get? h'.objs.size = some (PyProof.Rows.seqObj "list" acc.toList.toArray 0) := Heap.get?_push_size _ rfl
  show wpAny _ _ _ _ _ { s with heap := h'.push (PyProof.Rows.seqObj "list" acc.toList.toArray 0), toks := tk }
  refine wpAny_bind (wpAny_holding (wpAny_call_entry PyProof.Rows.slot_list_sort ⟨_, hoL, rfl⟩ PyProof.Rows.entry_list_sort
    (PyProof.Rows.list_sort_treeKAny PyProof.Rows.strKind_oneLt (s := { s with heap := h'.push (PyProof.Rows.seqObj "list" acc.toList.toArray 0), toks := tk }) hoL hS.keysOf (fun v₁ v₂ rest e => PyProof.Rows.keyKind_strs (by rw [← e]; exact hS)) hL fun st' hp hs => ⟨_, rfl, ?_⟩)
    (PyProof.Rows.args_list_sort _)))
  obtain ⟨ys, g1, g2, g3⟩ := PyProof.Rows.sorted_out_str hS hp hs
  obtain ⟨e', he'⟩ := PyProof.Rows.sortedHeap_at (vs := acc.toList) (out := (PyProof.Rows.arrOf st').map (·.2)) hoL
  have hlen : (ys.map V.str).length ≤ sizeLine := by
    rw [List.length_map, g2.length_eq, ← hl]
    exact h16
  refine wpAny_pure ⟨_, rfl, .ref h'.objs.size, upd H h'.objs.size (.lst (ys.map V.str)), I1.laid (t' := tk) (fun b u e => ?_) (Nat.le_refl _)
    (show ObjOk X.prog X.w _ _ _ (.lst (ys.map V.str)) from ⟨hlen, ((PyProof.Rows.arrOf st').map (·.2)).toList, e', vals_of_strs g1, by rw [Array.toArray_toList]; exact he'⟩), rfl, q ys _ g2 g3 (I1.hok.fresh (Nat.le_refl _))⟩
  have hb : b < h'.objs.size := Heap.lt_size e
  rw [PyProof.Rows.sortedHeap_old (Nat.ne_of_lt hb) (by rw [PyProof.Rows.size_push']; exact Nat.lt_succ_of_lt hb)]
  exact Heap.get?_push_of_some _ e
def c_sortedI (K : PySem.W.Frag) : List V → Hp → VK → Prop := fun xs H Q => ∃ (a : Addr) (ns : List Int), xs = [.ref a] ∧ SqL K H a (ns.map V.int) ∧ ∀ (ns' : List Int) p, ns'.Perm ns → ns'.Pairwise (· ≤ ·) → H p = none → Q (.ref p) (upd H p (.lst (ns'.map V.int)))
theorem k_sortedI {X : Cx} : CallR X (.builtin "sorted") (c_sortedI X.K) := cr_sortedI
def c_dictP (K : PySem.W.Frag) : List V → Hp → VK → Prop := fun xs H Q => ∃ (a : Addr) (ps : List Addr) (kvs : List (Key × V)), xs = [.ref a] ∧ SqL K H a (ps.map V.ref) ∧ Paired (fun p kv => SqT K H p [kV kv.1, kv.2]) ps kvs ∧ ∀ p, H p = none → Q (.ref p) (upd H p (.dK (mergeK [] kvs)))
theorem k_dictP {X : Cx} (hc : X.calm = true) : CallR X (.type "dict") (c_dictP X.K) := call_dictP hc
/-! ### methods -/
def r_find : V → List V → Hp → VK → Prop := fun x xs H Q => ∃ a b : Str, x = .str a ∧ xs = [.str b] ∧ Q (.int (Txt.find a b)) H
theorem m_find {X : Cx} : MtR X "str.find" r_find := mt_find
def r_insert : V → List V → Hp → VK → Prop := fun x vs H Q => ∃ (l : Addr) (xs : List V) (i : Int) (y : V), x = .ref l ∧ vs = [.int i, y] ∧ H l = some (.lst xs) ∧ xs.length < sizeLine ∧ 0 ≤ i ∧ i < 2 ^ 63 ∧ Q .non (upd H l (.lst (xs.take i.toNat ++ [y] ++ xs.drop i.toNat)))
theorem m_insert {X : Cx} : MtR X "list.insert" r_insert := mt_insert
def r_count (K : PySem.W.Frag) : V → List V → Hp → VK → Prop := fun x vs H Q => ∃ (l : Addr) (bs : List Bool), x = .ref l ∧ vs = [.bl true] ∧ SqL K H l (bs.map V.bl) ∧ Q (.int (bs.count true : Nat)) H
theorem count_bls : ∀ bs : List Bool, (bs.map Value.bool).countP (eqU (.bl true)) = bs.count true
  | [] => rfl
  | b :: bs => by
    rw [List.map_cons, List.countP_cons, List.count_cons, count_bls bs]
    cases b <;> rfl
theorem m_count {X : Cx} : MtR X "list.count" (r_count X.K) := by
  intro pins s σ H x xs v us Q I rx rxs h
  obtain ⟨p, bs, rfl, rfl, hs, q⟩ := h
  cases rx
  obtain ⟨u, rfl, ru⟩ := rxs.one
  obtain ⟨its, rv, ⟨⟨cls, dd, data, sl⟩, n, ho, hc, hdn, hd⟩, hlen⟩ := I.list hs
  simp only at hc hd
  subst hc hd
  have hi := Vals.bls rv
  have fl : (bs.map V.bl).all flatV = true := by rw [List.all_map]; exact List.all_eq_true.mpr fun _ _ => rfl
  refine call_meets PySem.F.slot_list_count ⟨_, ho, rfl⟩ PySem.F.entry_list_count (PySem.F.args_list_count_2 _ _)
    (SeqAt.list_countAt p its.toArray n dd sl u (eqU (.bl true))) ⟨ho, fun y hy => mem_eqAt ru rfl rv fl y (by simpa using hy), ?_⟩
  have ec : its.toArray.toList.countP (eqU (.bl true)) = bs.count true := by
    rw [hi, List.toList_toArray]
    exact count_bls bs
  refine ⟨.int (bs.count true : Nat), H, I.tok _, ⟨s.toks, ?_⟩, q⟩
  show Value.int ((its.toArray.toList.countP (eqU (.bl true)) : Nat) : Int) s.toks = Value.int ((bs.count true : Nat) : Int) s.toks
  rw [ec]
def r_update : V → List V → Hp → VK → Prop := fun x vs H Q => ∃ (a b : Addr) (kvs more : List (Key × V)), x = .ref a ∧ vs = [.ref b] ∧ a ≠ b ∧ H a = some (.dK kvs) ∧ Rd H b (.dK more) ∧ kvs.length + more.length ≤ sizeLine ∧ Q .non (upd H a (.dK (mergeK kvs more)))
theorem m_update {X : Cx} : MtR X "dict.update" r_update := by
  intro pins s σ H x xs v us Q I rx rxs h
  obtain ⟨a, b, kvs, more, rfl, rfl, hab, ha, hb, hz, q⟩ := h
  cases rx
  obtain ⟨u, rfl, ru⟩ := rxs.one
  cases ru
  obtain ⟨z1, lo1, vs, rel, dd⟩ := dk_of I.hok ha
  obtain ⟨z2, lo2, ws, rel2, dd2⟩ := dk_rd I.hok hb
  refine call_meetsIn PySem.F.slot_dict_update dd.typeIs PySem.F.entry_dict_update (PySem.F.args_dict_update_2 _ _) (meets_dict_update (mixKind X.prog X.w) a b hab lo2)
    ⟨vs, ws, dd, dd2, by rw [← rel.length, ← rel2.length]; exact hz, fun h' d1 d2 sb => ?_⟩
  have hl : (mergeK kvs more).length ≤ sizeLine := Nat.le_trans (length_mergeK more kvs) hz
  have he : ∃ o, h'.get? a = some o := let ⟨o, _, _, ho, _⟩ := d1; ⟨o, ho⟩
  exact ⟨.non, _, d_write (t' := s.toks) I (by rw [ha]; trivial) sb he (dk_new hl lo1 (KV.merge rel2 rel) d1), rfl, q⟩
/-! ### a method called within a try -/
def tMethS (C : Addr) (m : Str) (sp : Sp) (E : St → XK) (ta : TE) (t : TA) : TE := fun σ H Q => ta σ H fun x H1 => ∃ a dx fs, x = .ref a ∧ H1 a = some (.ins C dx fs) ∧ fs.lookup m = none ∧ t σ H1 fun vs H2 => sp (x :: vs) H2 Q (E σ)
section
variable {X : Cx} {CX : CXT} {k : Nat} {C f : Addr} {fd : FuncData} {ps : List Str} {sp : Sp} {E : St → XK} {m : Str} {o e : Expr} {es : List Expr} {ta : TE} {t : TA} {apos pos : Pos}
theorem pe_methSS {pl : Sem Bool} (he : PE X o ta) (c : Cls X.K C) (hm : Meth X.K C m f) (F : FnOk X.prog X.w X.K X.mg X.base CX k f fd ps sp) (hr : Room k X.A) (hb : Binds X.K fd ps []) (hx : ∀ σ, PassesAt CX X σ (E σ)) (ha : PA X (e :: es) t)
    (hst : starEach (e :: es) X.env = (false, eval e X.env) :: starEach es X.env := by rfl) (hpl : (backTo pos (starEach es X.env)).any (·.1) = false := by rfl)
    (ht : eval (.Call (.Attribute o m apos) (e :: es) [] pos) X.env = (do
      let ov ← eval o X.env
      standAt apos.atName
      let (f, first) ← holding [ov] (getMethod ov m pl)
      callWith pos f first (backTo pos (starEach (e :: es) X.env)) (backToKw pos (keywordEach [] X.env))) := by rfl) :
    PE X (.Call (.Attribute o m apos) (e :: es) [] pos) (tMethS C m sp E ta t) := by
  refine ⟨fun pins s σ H Q I h => ?_⟩
  refine PySem.W.methodCall_KW (pl := pl) (thn (he.run pins s σ H _ I h) fun u s1 ⟨x, H1, I1, rx, a, dx, fs, ex, ea, l, q⟩ => ?_) ht
  subst ex
  obtain rfl : u = Value.ref a := rx
  refine getmeth_ok I1 ea c hm l ?_
  refine PySem.W.callWith_K (first := [.ref a]) (h₀ := X.base) I.ok.mod.kin hm.kp (thn (ha.run pos pins s1 σ H1 _ I1 q) fun us s2 ⟨vs, H2, I2, r, q2⟩ => ⟨I2.kIn, ?_⟩) hst hpl
  exact run_fnS (us := .ref a :: us) (vs := .ref a :: vs) F hr hb (hx σ) I2 (.cons rfl r) q2
end
/-! ### isinstance of a caught exception -/
def c_isE (K : PySem.W.Frag) (ec : Value) (ed : Option Addr) (a : Addr) : List V → Hp → VK → Prop := fun xs H Q => ∃ (D : Addr) (c : V) (cv : Value) (b : Bool), ec = .ref D ∧ ed = none ∧ ExcC K D ∧ xs = [.ref a, c] ∧ (∀ u, RelV c u → u = cv) ∧ PySem.W.kitOne K (.ref D) cv = some b ∧ Q (.bl b) H
theorem k_isE {X : Cx} {a : Addr} {oe : Obj} {ec : Value} {ed : Option Addr} {pn : List (Addr × Obj)} (hz : Zc ec ed oe) (hf : ∃ vs, oe.data = .fields vs) : CallR (X.suite a ((a, oe) :: pn)) (.builtin "isinstance") (c_isE X.K ec ed a) := by
  intro pins s σ H xs us Q I r h
  obtain ⟨D, c, cv, b, e1, e2, C, h⟩ := h
  subst e1 e2
  exact call_isE C hz hf pins s σ H xs us Q I r ⟨c, cv, b, h⟩
end Kr
namespace Kr
open PySem PySem.Spec L2
/-! ### readings on heaps that only grow -/
def I_ (ns : List Int) : List V := ns.map V.int
/-- something new is laid -/
def Nw (o : HO) (Q : VK) (H : Hp) : Prop := ∀ p, H p = none → Q (.ref p) (upd H p o)
section
variable {K : PySem.W.Frag} {t u : TS} {D : Ends} {σ : St} {H : Hp} {Q : VK} {te ta tb tc : TE} {i : Nat} {v : V} {x : Str} {g : TG} {tt : TT} {vs : List Nat} {o : HO} {n : Nat} {xs ys : List V} {a p : Addr}
theorem y_Nw (h : ∀ p H2, H p = none → Ext H H2 → H2 p = some o → Q (.ref p) H2) : Nw o Q H := fun p hp => h p _ hp (Ext.upd hp) upd_same
theorem y_lst {tr : TA} (h : tr σ H fun xs H1 => xs.length ≤ sizeLine ∧ Nw (.lst xs) Q H1) : tLst tr σ H Q := h
theorem y_tup {tr : TA} (h : tr σ H fun xs H1 => xs.length ≤ sizeLine ∧ Nw (.tup xs) Q H1) : tTup tr σ H Q := h
theorem y_dNew (h : Nw (.dK []) Q H) : tDNewK σ H Q := h
theorem y_list (e : SqL K H p ys) (h : Nw (.lst ys) Q H) : c_list K [.ref p] H Q := ⟨p, ys, rfl, .inl e, h⟩
theorem y_listT (e : SqT K H p ys) (h : Nw (.lst ys) Q H) : c_list K [.ref p] H Q := ⟨p, ys, rfl, .inr e, h⟩
theorem y_slL {lo hi : Option Int} (e : SqL K H p xs) (h : Nw (.lst (cutV xs lo hi)) Q H) : rSlL K (.ref p) lo hi H Q := ⟨p, xs, rfl, e, h⟩
theorem y_listD {kvs : List (Key × V)} (e : Rd H p (.dK kvs)) (h : Nw (.lst (kvs.map fun kv => kV kv.1)) Q H) : c_listD [.ref p] H Q := ⟨p, kvs, rfl, e, h⟩
theorem y_dictD {kvs : List (Key × V)} (e : Rd H p (.dK kvs)) (h : Nw (.dK kvs) Q H) : c_dictD [.ref p] H Q := ⟨p, kvs, rfl, e, h⟩
theorem y_gTup {gs : TGs} {q : St → Hp → Prop} (e : SqT K H p xs) (hl : xs.length = n) (h : gs xs σ H q) : gTup K n gs (.ref p) σ H q := ⟨p, xs, rfl, e, hl, h⟩
theorem y_gCons {gs : TGs} {q : St → Hp → Prop} (h : g v σ H fun σ' H' => gs xs σ' H' q) : gCons g gs (v :: xs) σ H q := ⟨v, xs, rfl, h⟩
theorem y_gNil {q : St → Hp → Prop} (h : q σ H) : gNil [] σ H q := ⟨rfl, h⟩
theorem y_gName {q : St → Hp → Prop} (h : q (σ.set i (some v)) H) : gName i v σ H q := h
theorem y_sz1 {A : Prop} (e : xs.length ≤ 100) (h : A) : xs.length ≤ sizeLine ∧ A := ⟨by rw [sizeLine_eq]; omega, h⟩
end
section
variable {K : PySem.W.Frag} {D : Ends} {σ : St} {H : Hp} {Q : VK} {te : TE} {g : TG} {tt : TT} {tb : TS} {vs : List Nat} {xs : List V} {a : Addr}
/-- for over a list -/
theorem x_forL (hq : SqL K H a xs) (ht : ∀ Q : VK, Q (.ref a) H → te σ H Q) (Pv : Nat → St → Hp → Prop) (h0 : Pv 0 σ H)
    (hs : ∀ i x σ' H', xs[i]? = some x → i < xs.length → Ext H H' → Pv i σ' H' → g x σ' H' fun σ2 H2 => tb { D with nx := fun σ3 H3 => Ext H H3 ∧ Pv (i + 1) σ3 H3, ct := fun σ3 H3 => Ext H H3 ∧ Pv (i + 1) σ3 H3, bk := D.nx } σ2 H2)
    (hd : ∀ σ' H', Ext H H' → Pv xs.length σ' H' → D.nx σ' H') : tFor (iList K te) g tb D σ H :=
  ht _ ⟨a, rfl, ⟨xs, hq⟩, for_list (fun i σ' H' => Ext H H' ∧ Pv i σ' H') ⟨Ext.rfl', h0⟩ (fun _ _ _ _ h => hq.ext h.1) (fun i x σ' H' e h => hs i x σ' H' e (List.getElem?_eq_some_iff.mp e).1 h.1 h.2) (fun σ' H' h => hd σ' H' h.1 h.2)⟩
/-- for over a tuple -/
theorem x_forT (hq : SqT K H a xs) (ht : ∀ Q : VK, Q (.ref a) H → te σ H Q) (Pv : Nat → St → Hp → Prop) (h0 : Pv 0 σ H)
    (hs : ∀ i x σ' H', xs[i]? = some x → i < xs.length → Ext H H' → Pv i σ' H' → g x σ' H' fun σ2 H2 => tb { D with nx := fun σ3 H3 => Ext H H3 ∧ Pv (i + 1) σ3 H3, ct := fun σ3 H3 => Ext H H3 ∧ Pv (i + 1) σ3 H3, bk := D.nx } σ2 H2)
    (hd : ∀ σ' H', Ext H H' → Pv xs.length σ' H' → D.nx σ' H') : tFor (iTup K te) g tb D σ H :=
  ht _ ⟨a, rfl, ⟨xs, hq⟩, for_tup (fun i σ' H' => Ext H H' ∧ Pv i σ' H') ⟨Ext.rfl', h0⟩ (fun _ _ _ _ h => hq.ext h.1) (fun i x σ' H' e h => hs i x σ' H' e (List.getElem?_eq_some_iff.mp e).1 h.1 h.2) (fun σ' H' h => hd σ' H' h.1 h.2)⟩
/-- for over a range -/
theorem x_forR {j : Int} (hj : 0 ≤ j ∧ j < 2 ^ 62) (ht : ∀ Q : VK, Q (.int j) H → te σ H Q) (Pv : Nat → St → Hp → Prop) (h0 : Pv 0 σ H)
    (hs : ∀ (i : Nat) σ' H', (i : Int) < j → Ext H H' → Pv i σ' H' → g (.int i) σ' H' fun σ2 H2 => tb { D with nx := fun σ3 H3 => Ext H H3 ∧ Pv (i + 1) σ3 H3, ct := fun σ3 H3 => Ext H H3 ∧ Pv (i + 1) σ3 H3, bk := D.nx } σ2 H2)
    (hd : ∀ σ' H', Ext H H' → Pv j.toNat σ' H' → D.nx σ' H') : tFor (iRng1 (tCons te tNil)) g tb D σ H := by
  refine ht _ ⟨j, rfl, by omega, hj.2, for_range (fun i σ' H' => Ext H H' ∧ Pv i σ' H') ⟨Ext.rfl', h0⟩ (fun i σ' H' hi h => ?_) (fun σ' H' h => hd σ' H' h.1 h.2)⟩
  have e : (0 + (i : Int)) = i := by omega
  rw [e]
  exact hs i σ' H' (by omega) h.1 h.2
/-- for over enumerate(list) -/
theorem x_forE (hq : SqL K H a xs) (ht : ∀ Q : VK, Q (.ref a) H → te σ H Q) (Pv : Nat → St → Hp → Prop) (h0 : Pv 0 σ H)
    (hs : ∀ i x σ' H' T, xs[i]? = some x → i < xs.length → Ext H H' → H' T = some (.tup [.int (i : Nat), x]) → Pv i σ' H' → g (.ref T) σ' H' fun σ2 H2 => tb { D with nx := fun σ3 H3 => Ext H H3 ∧ Pv (i + 1) σ3 H3, ct := fun σ3 H3 => Ext H H3 ∧ Pv (i + 1) σ3 H3, bk := D.nx } σ2 H2)
    (hPe : ∀ i σ' H' H'', Ext H' H'' → Pv i σ' H' → Pv i σ' H'')
    (hd : ∀ σ' H', Ext H H' → Pv xs.length σ' H' → D.nx σ' H') : tFor (iEnum K (tCons te tNil)) g tb D σ H := by
  refine ht _ ⟨a, xs, rfl, hq, for_it walk_enum (fun i σ' H' => Ext H H' ∧ Pv i σ' H') ⟨Ext.rfl', h0⟩ (fun _ _ _ _ h => hq.ext h.1) (fun i x σ' H' H'' hi h y => ?_) (fun σ' H' h => hd σ' H' h.1 h.2)⟩
  obtain ⟨T, x1, y1, e1, e2, e3, e4, e5⟩ := y
  subst e1 e3
  cases e4
  exact hs i y1 σ' _ T e5 hi (h.1.upd' e2) upd_same (hPe i σ' _ _ (Ext.upd e2) h.2)
/-- for over a text -/
theorem x_forS {z : Str} (ht : ∀ Q : VK, Q (.str z) H → te σ H Q) (Pv : Nat → St → Hp → Prop) (h0 : Pv 0 σ H)
    (hs : ∀ i c σ' H', z.cps[i]? = some c → Ext H H' → Pv i σ' H' → g (.str ⟨#[c]⟩) σ' H' fun σ2 H2 => tb { D with nx := fun σ3 H3 => Ext H H3 ∧ Pv (i + 1) σ3 H3, ct := fun σ3 H3 => Ext H H3 ∧ Pv (i + 1) σ3 H3, bk := D.nx } σ2 H2)
    (hd : ∀ σ' H', Ext H H' → Pv z.cps.size σ' H' → D.nx σ' H') : tFor (iStr te) g tb D σ H := by
  refine ht _ ⟨z, rfl, for_it walk_str (fun i σ' H' => Ext H H' ∧ Pv i σ' H') ⟨Ext.rfl', h0⟩ (fun _ _ _ _ _ => trivial) (fun i x σ' H' H'' hi h y => ?_) (fun σ' H' h => hd σ' H' h.1 h.2)⟩
  obtain ⟨e1, c, e2, e3⟩ := y
  subst e1 e3
  exact hs i c σ' _ e2 h.1 h.2
/-- while on growing heaps -/
theorem x_while {c : TT} (Pv : Nat → St → Hp → Prop) (m : Nat) (h0 : Pv m σ H)
    (hs : ∀ m σ' H', Ext H H' → Pv m σ' H' → c σ' H' fun b H1 => if b = true then ∃ N : St → Hp → Prop, (∀ σ' H', N σ' H' → ∃ m', m' < m ∧ Ext H H' ∧ Pv m' σ' H') ∧ tb { D with nx := N, ct := N, bk := D.nx } σ' H1 else D.nx σ' H1) : tWhile c tb D σ H :=
  ⟨fun m σ' H' => Ext H H' ∧ Pv m σ' H', ⟨m, Ext.rfl', h0⟩, fun m σ' H' ⟨e, h⟩ => hs m σ' H' e h⟩
theorem y_turn {H0 : Hp} {m : Nat} {Pv : Nat → St → Hp → Prop} (h : tb { D with nx := fun σ3 H3 => Ext H0 H3 ∧ ∃ m', m' < m ∧ Pv m' σ3 H3, ct := fun σ3 H3 => Ext H0 H3 ∧ ∃ m', m' < m ∧ Pv m' σ3 H3, bk := D.nx } σ H) :
    ∃ N : St → Hp → Prop, (∀ σ' H', N σ' H' → ∃ m', m' < m ∧ Ext H0 H' ∧ Pv m' σ' H') ∧ tb { D with nx := N, ct := N, bk := D.nx } σ H :=
  ⟨_, fun _ _ ⟨e, m', l, p⟩ => ⟨m', l, e, p⟩, h⟩
/-- a comprehension whose items are told by f -/
theorem lc_gen {J : It} {n : Nat} {G : Hp → Prop} {Y : Nat → Hp → V → Hp → Prop} (w : Walk J n G Y) (hn : n ≤ 60000) (hG : ∀ H', Ext H H' → G H') (el : Nat → V) (hY : ∀ i H' x H'', i < n → Ext H H' → Y i H' x H'' → Ext H' H'' ∧ x = el i) (f : Nat → Option V)
    (step : ∀ i H' (Qt : V → Hp → Prop) (Qf : Hp → Prop), i < n → Ext H H' → (∀ y H4, Ext H' H4 → f i = some y → Qt y H4) → (∀ H3, Ext H' H3 → f i = none → Qf H3) →
      g (el i) (wipe σ vs) H' fun σ2 H2 => wipe σ2 vs = wipe σ vs ∧ tt σ2 H2 fun b H3 => if b = true then te σ2 H3 Qt else Qf H3)
    (q : ∀ H' p, H p = none → Ext H H' → H' p = some (.lst ((List.range n).filterMap f)) → Q (.ref p) H') :
    ∀ D, H D = none → ∃ W : Nat → Nat → Hp → Prop, (∃ m, W 0 m (upd H D (.lst []))) ∧ ∀ i m H, W i m H →
      (J.stop i H ∧ Q (.ref D) H) ∨ (J.go i H ∧ ∃ Nx : Hp → Prop, (∀ H', Nx H' → ∃ m', m' < m ∧ W (i + 1) m' H') ∧ ∀ x H', J.yld i H x H' → g x (wipe σ vs) H' fun σ2 H2 => wipe σ2 vs = wipe σ vs ∧ tt σ2 H2 fun b H3 =>
        if b = true then te σ2 H3 fun y H4 => ∃ acc, H4 D = some (.lst acc) ∧ acc.length < sizeLine ∧ Nx (upd H4 D (.lst (acc ++ [y]))) else Nx H3) := by
  intro D hD
  refine lc_it w (Qd := fun H' => Q (.ref D) H') (fun i H' => Ext H H' ∧ H' D = some (.lst ((List.range i).filterMap f))) ⟨Ext.upd hD, upd_same⟩ (fun i H' _ h => hG H' h.1) (fun i x H' H'' hi h y => ?_) (fun H' h => q H' D hD h.1 h.2)
  obtain ⟨e, rfl⟩ := hY i H' x H'' hi h.1 y
  have e1 := h.1.trans e
  have hd := e _ _ h.2
  refine step i H'' _ _ hi e1 (fun y H4 e4 hf => ?_) (fun H3 e3 hf => ?_)
  · refine ⟨_, e4 _ _ hd, ?_, fun b o hb => ?_, ?_⟩
    · have := List.length_filterMap_le f (List.range i)
      rw [List.length_range] at this
      rw [sizeLine_eq]; omega
    · rw [upd_ne (ne_of_none hb hD)]
      exact e4 _ _ (e1 _ _ hb)
    · rw [upd_same, List.range_succ, List.filterMap_append]
      simp [hf]
  · refine ⟨e1.trans e3, ?_⟩
    rw [e3 _ _ hd, List.range_succ, List.filterMap_append]
    simp [hf]
theorem x_lcR {j : Int} (hj : 0 ≤ j ∧ j < 60000) (ht : ∀ Q : VK, Q (.int j) H → te σ H Q) {te' : TE} (f : Nat → Option V)
    (step : ∀ (i : Nat) H' (Qt : V → Hp → Prop) (Qf : Hp → Prop), (i : Int) < j → Ext H H' → (∀ y H4, Ext H' H4 → f i = some y → Qt y H4) → (∀ H3, Ext H' H3 → f i = none → Qf H3) →
      g (.int i) (wipe σ vs) H' fun σ2 H2 => wipe σ2 vs = wipe σ vs ∧ tt σ2 H2 fun b H3 => if b = true then te' σ2 H3 Qt else Qf H3)
    (q : ∀ H' p, H p = none → Ext H H' → H' p = some (.lst ((List.range j.toNat).filterMap f)) → Q (.ref p) H') : tLc (iRng1 (tCons te tNil)) g tt te' vs σ H Q := by
  refine ht _ ⟨j, rfl, by omega, by omega, lc_gen walk_range (by omega) (fun _ _ => trivial) (fun i => .int i) (fun i H' x H'' _ _ y => ?_) f (fun i H' Qt Qf hi => step i H' Qt Qf (by omega)) q⟩
  obtain ⟨rfl, rfl⟩ := y
  exact ⟨Ext.rfl', by show V.int (0 + (i : Int)) = _; rw [show (0 : Int) + (i : Int) = i by omega]⟩
theorem fm_range {α β : Type} (xs : List α) (f : α → Option β) : (List.range xs.length).filterMap (fun i => xs[i]?.bind f) = xs.filterMap f := by
  induction xs with
  | nil => rfl
  | cons x xs ih => rw [List.length_cons, List.range_succ_eq_map, List.filterMap_cons, List.filterMap_cons, List.filterMap_map]; simp only [List.getElem?_cons_zero, Option.bind_some]; rw [← ih]; rfl
theorem x_lcL (hq : SqL K H a xs) (hn : xs.length ≤ 60000) (ht : ∀ Q : VK, Q (.ref a) H → te σ H Q) {te' : TE} (f : V → Option V)
    (step : ∀ x H' (Qt : V → Hp → Prop) (Qf : Hp → Prop), x ∈ xs → Ext H H' → (∀ y H4, Ext H' H4 → f x = some y → Qt y H4) → (∀ H3, Ext H' H3 → f x = none → Qf H3) →
      g x (wipe σ vs) H' fun σ2 H2 => wipe σ2 vs = wipe σ vs ∧ tt σ2 H2 fun b H3 => if b = true then te' σ2 H3 Qt else Qf H3)
    (q : ∀ H' p, H p = none → Ext H H' → H' p = some (.lst (xs.filterMap f)) → Q (.ref p) H') : tLc (iList K te) g tt te' vs σ H Q := by
  refine ht _ ⟨a, rfl, ⟨xs, hq⟩, lc_gen walk_list hn (fun _ e => hq.ext e) (fun i => xs.getD i .non) (fun i H' x H'' hi _ y => ?_) (fun i => xs[i]?.bind f) (fun i H' Qt Qf hi e h1 h2 => ?_) (fun H' p hp e h => q H' p hp e (by rw [h, fm_range]))⟩
  · obtain ⟨rfl, y⟩ := y
    exact ⟨Ext.rfl', by simp [List.getD, y]⟩
  · have e1 : xs[i]? = some (xs.getD i .non) := by simp [List.getD, hi]
    exact step _ H' Qt Qf (List.mem_of_getElem? e1) e (fun y H4 e4 hf => h1 y H4 e4 (by rw [e1]; exact hf)) (fun H3 e3 hf => h2 H3 e3 (by rw [e1]; exact hf))
end
theorem xget {H H' : Hp} {a : Addr} {o : HO} (e : Ext H H') (h : H a = some o) : H' a = some o := e _ _ h
def Pk (Q : Option Int → Hp → Prop) (x : V) (H : Hp) : Prop := ∃ i, x = .int i ∧ Q (some i) H
theorem y_part {te : TE} {σ : St} {H : Hp} {Q : Option Int → Hp → Prop} (h : te σ H fun x H1 => Pk Q x H1) : tPart te σ H Q := h
theorem y_Pk {j : Int} {H : Hp} {Q : Option Int → Hp → Prop} (h : Q (some j) H) : Pk Q (.int j) H := ⟨j, rfl, h⟩
theorem y_nil {K : PySem.W.Frag} {a b : Addr} {xs : List V} {H : Hp} {Q : VK} (ha : SqL K H a xs) (hb : H b = some (.lst [])) (h : Q (.bl xs.isEmpty) H) : r_nil K (.ref a) (.ref b) H Q := ⟨a, b, xs, rfl, rfl, ha, hb, h⟩
theorem y_nnil {K : PySem.W.Frag} {a b : Addr} {xs : List V} {H : Hp} {Q : VK} (ha : SqL K H a xs) (hb : H b = some (.lst [])) (h : Q (.bl (!xs.isEmpty)) H) : r_nnil K (.ref a) (.ref b) H Q := ⟨a, b, xs, rfl, rfl, ha, hb, h⟩
theorem sqg {K : PySem.W.Frag} {a : Addr} {xs : List V} {H H' : Hp} (h : H a = some (.lst xs)) (e : Ext H H') : SqL K H' a xs := SqL.of (e _ _ h)
theorem sqe {K : PySem.W.Frag} {a : Addr} {xs : List V} {H H' : Hp} (h : SqL K H a xs) (e : Ext H H') : SqL K H' a xs := h.ext e
theorem stg {K : PySem.W.Frag} {a : Addr} {xs : List V} {H H' : Hp} (h : H a = some (.tup xs)) (e : Ext H H') : SqT K H' a xs := SqT.of (e _ _ h)
theorem ste {K : PySem.W.Frag} {a : Addr} {xs : List V} {H H' : Hp} (h : SqT K H a xs) (e : Ext H H') : SqT K H' a xs := h.ext e
theorem xg {H H' : Hp} {a : Addr} {o : HO} (h : H a = some o) (e : Ext H H') : H' a = some o := e _ _ h
theorem x_yes {σ : St} {H : Hp} {Q : Bool → Hp → Prop} (h : Q true H) : tYes σ H Q := h
theorem dp_I {K : PySem.W.Frag} {H : Hp} : ∀ ns : List Int, DpAll K H (I_ ns) (ns.map PyData.int)
  | [] => .nil
  | n :: ns => .cons (.int n) (dp_I ns)
theorem y_neIs {K : PySem.W.Frag} {a b : Addr} {ns : List Int} {H : Hp} {Q : VK} (ha : SqL K H a (I_ ns)) (hb : SqL K H b (I_ ns)) (h : Q (.bl false) H) : rNeD K (.ref a) (.ref b) H Q := by
  refine ⟨.list (ns.map .int), .list (ns.map .int), .lst ha (dp_I ns), .lst hb (dp_I ns), PySem.W.ke_shaped_ints ns, PySem.W.ke_shaped_ints ns, ?_⟩
  rw [SeqAt.eqv_refl _ (SeqAt.canLay_of_shaped (PySem.W.ke_shaped_ints ns))]
  exact h
theorem y_blG {b : Bool} {F : Bool → Prop} (h : F b) : ∃ k, V.bl b = .bl k ∧ F k := ⟨b, rfl, h⟩
theorem x_retP {t : TE} {D : Ends} {σ : St} {H : Hp} (h : t σ H D.rt) : tRet t D σ H := h
theorem x_itT {A B : Prop} (h : A) : if (true = true) then A else B := iteT h
theorem x_itF {A B : Prop} (h : B) : if (false = true) then A else B := iteF h
theorem x_rtD {t : TE} {nx : St → Hp → Prop} {rt : VK} {bk ct : St → Hp → Prop} {σ : St} {H : Hp} (h : t σ H rt) : tRet t { nx := nx, rt := rt, bk := bk, ct := ct } σ H := h
end Kr
/-! ### one step of a reading -/
open PySem PySem.Spec L2
local macro_rules | `(tactic| walk_at "ext") => `(tactic| first | assumption | exact Ext.rfl' | (refine Ext.trans ?_ (by assumption); walk_at "ext"))
local macro_rules | `(tactic| walk_at "get") => `(tactic| first | assumption | exact Kr.xg (by assumption) (by walk_at "ext"))
local macro_rules | `(tactic| walk_at "sq") => `(tactic| first | assumption | exact SqL.of (by assumption) | exact Kr.sqe (by assumption) (by walk_at "ext") | exact Kr.sqg (by assumption) (by walk_at "ext"))
local macro_rules | `(tactic| walk_at "sqt") => `(tactic| first | assumption | exact SqT.of (by assumption) | exact Kr.ste (by assumption) (by walk_at "ext") | exact Kr.stg (by assumption) (by walk_at "ext"))
local macro_rules | `(tactic| walk_at "nw") => `(tactic| (refine Kr.y_Nw fun _ _ hp e1 e2 => ?_))
local macro_rules | `(tactic| walk_at "rd1") => `(tactic| with_reducible first
  | refine Kr.x_seq ?_ | refine Kr.x_next ?_ | refine Kr.x_asg ?_ | refine Kr.x_asgT ?_ | refine Kr.x_drop ?_ | refine Kr.x_ret ?_ | refine Kr.x_retN ?_ | refine Kr.x_ifS ?_ | refine Kr.x_brk ?_ | refine Kr.x_cont ?_
  | refine Kr.x_c ?_ | refine Kr.x_op ?_ | refine Kr.x_un ?_ | refine Kr.x_chain ?_ | refine Kr.x_test ?_ | refine Kr.x_B ?_ | refine Kr.y_blG ?_
  | refine Kr.x_and ?_ | refine Kr.x_or ?_ | refine Kr.x_not ?_ | refine Kr.x_andV ?_ | refine Kr.x_orV ?_ | refine Kr.x_notV ?_
  | refine Kr.x_cons ?_ | refine Kr.x_nil ?_ | refine Kr.x_CB ?_ | refine Kr.x_call ?_ | refine Kr.x_sl ?_ | refine Kr.x_noPart ?_ | refine Kr.y_part ?_ | refine Kr.y_Pk ?_ | refine Kr.x_intI ?_
  | refine Kr.x_add ?_ | refine Kr.x_sub ?_ | refine Kr.x_lt ?_ | refine Kr.x_le ?_ | refine Kr.x_gt ?_ | refine Kr.x_ge ?_ | refine Kr.x_neg ?_ | refine Kr.x_eqI ?_ | refine Kr.x_neI ?_ | refine Kr.x_eqS ?_ | refine Kr.x_neS ?_ | refine Kr.x_isN ?_ | refine Kr.x_notN ?_
  | refine Kr.x_min2 ?_ | refine Kr.x_max2 ?_ | refine Kr.x_yes ?_ | refine Kr.x_itT ?_ | refine Kr.x_itF ?_
  | refine Kr.y_lst ?_ | refine Kr.y_tup ?_ | refine Kr.y_dNew ?_ | refine Kr.y_gCons ?_ | refine Kr.y_gNil ?_ | refine Kr.y_gName ?_)
local macro_rules | `(tactic| walk_at "rd2") => `(tactic| with_reducible first
  | (refine Kr.x_var (by k_dflt exact rfl) ?_)
  | (refine Kr.x_mul (by k_dflt first | exact Or.inr ⟨by omega, by omega⟩ | exact Or.inl ⟨by omega, by omega⟩) ?_)
  | (refine Kr.x_div (by k_dflt exact ⟨by omega, by omega⟩) ?_)
  | (refine Kr.x_mod (by k_dflt first | decide | omega) ?_)
  | (refine Kr.x_len (by k_dflt walk_at "sq") ?_)
  | (refine Kr.y_list (by k_dflt walk_at "sq") ?_)
  | (refine Kr.y_slL (by k_dflt walk_at "sq") ?_)
  | (refine Kr.y_sz1 (by k_dflt simp) ?_)
  | (refine Kr.y_gTup (by k_dflt walk_at "sqt") (by k_dflt exact rfl) ?_)
  | (refine Kr.x_ixL (by k_dflt walk_at "sq") (by k_dflt exact rfl) ?_)
  | (refine Kr.x_ixT (by k_dflt walk_at "sqt") (by k_dflt exact rfl) ?_)
  | (refine Kr.y_neIs (by k_dflt walk_at "sq") (by k_dflt walk_at "sq") ?_)
  | (refine Kr.y_nil (by k_dflt walk_at "sq") (by k_dflt walk_at "get") ?_)
  | (refine Kr.y_nnil (by k_dflt walk_at "sq") (by k_dflt walk_at "get") ?_)
  | walk_at "nw")
local macro_rules | `(tactic| walk_at "rd") => `(tactic| repeat (first | walk_at "rd1" | walk_at "rd2"))
namespace Kr
/-! ### lists of numbers -/
theorem inV_int (x : Int) (xs : List Int) : inV (.int x) (I_ xs) = decide (x ∈ xs) := by
  unfold inV I_
  rw [List.any_map]
  induction xs with
  | nil => rfl
  | cons y ys ih =>
    rw [List.any_cons, ih]
    show ((y == x) || decide (x ∈ ys)) = _
    by_cases h : y = x
    · subst h; simp
    · have h2 : ¬ x = y := fun e => h e.symm
      simp [h, h2]
theorem flat_I (xs : List Int) : (I_ xs).all flatV = true := by
  unfold I_; rw [List.all_map]; exact List.all_eq_true.mpr fun _ _ => rfl
theorem len_I (xs : List Int) : (I_ xs).length = xs.length := List.length_map _
theorem cut_pre (xs : List Int) (k : Nat) : cutV (I_ xs) none (some (k : Int)) = I_ (xs.take k) := by
  unfold cutV I_
  rw [HT.sIx_none, HT.sIx_nat, List.drop_zero, Nat.sub_zero, List.length_map, ← List.map_take]
  by_cases h : k ≤ xs.length
  · rw [Nat.min_eq_left h]
  · rw [Nat.min_eq_right (by omega), List.take_of_length_le (Nat.le_refl _), List.take_of_length_le (by omega)]
theorem cut_suf (xs : List Int) (k : Nat) : cutV (I_ xs) (some (k : Int)) none = I_ (xs.drop k) := by
  unfold cutV I_
  rw [HT.sIx_none, HT.sIx_nat, List.length_map, List.take_of_length_le (by rw [List.length_drop, List.length_map]; exact Nat.le_refl _), ← List.map_drop]
  by_cases h : k ≤ xs.length
  · rw [Nat.min_eq_left h]
  · rw [Nat.min_eq_right (by omega), List.drop_of_length_le (Nat.le_refl _), List.drop_of_length_le (by omega)]
def sp_l_cell_at (_ : Program) (_ : World) (K : PySem.W.Frag) : Sp := fun vs H Q _ => ∃ (a : Addr) (ns : List Int) (k : Int), vs = [.ref a, .int k] ∧ 0 ≤ k ∧ SqL K H a (I_ ns) ∧ Q (.int (ns.getD k.toNat 0)) H
section
variable {P : Program} {w : World} {K : PySem.W.Frag} {vs : List V} {H : Hp} {Q : VK} {E : XK}
theorem len_l_cell_at (h : sp_l_cell_at P w K vs H Q E) : vs.length = 2 := by obtain ⟨_, _, _, rfl, _⟩ := h; rfl
theorem y_cell {a : Addr} {ns : List Int} {k : Int} (e : 0 ≤ k) (hs : SqL K H a (I_ ns)) (h : Q (.int (ns.getD k.toNat 0)) H) : sp_l_cell_at P w K ([.ref a, .int k] ++ []) H Q E := ⟨a, ns, k, rfl, e, hs, h⟩
theorem atI_nat {α : Type} {xs : List α} {k : Nat} : atI xs (k : Int) = xs[k]? := by
  unfold atI ixN
  rw [if_pos (Int.natCast_nonneg k)]
  by_cases h : k < xs.length
  · rw [if_pos (by omega)]; rfl
  · rw [if_neg (by omega)]; simp; omega
theorem getI {xs : List Int} {i : Nat} {x : V} (e : (I_ xs)[i]? = some x) : ∃ n : Int, x = .int n ∧ xs[i]? = some n := by
  unfold I_ at e
  rw [List.getElem?_map] at e
  cases h : xs[i]? with
  | none => rw [h] at e; cases e
  | some n => rw [h] at e; exact ⟨n, (Option.some.inj e).symm, rfl⟩
theorem mem_I {xs : List Int} {x : V} (h : x ∈ I_ xs) : ∃ n : Int, x = .int n ∧ n ∈ xs := by
  obtain ⟨n, hn, rfl⟩ := List.mem_map.mp h
  exact ⟨n, rfl, hn⟩
end
def t_l_cell_at (P : Program) (w : World) (K : PySem.W.Frag) : TS :=
  (tSeq (tIfS (tTest (tOp r_lt (tVar 1) (tCB (c_len K) (tCons (tVar 0) tNil)))) (tRet (tOp (rIxL K) (tVar 0) (tVar 1))) tNext) (tRet (tC (.int 0))))

section
variable {P : Program} {w : World} {K : PySem.W.Frag} {vs : List V} {H : Hp} {Q : VK} {E : XK}
theorem rd_l_cell_at (h : sp_l_cell_at P w K vs H Q E) : t_l_cell_at P w K { nx := fun _ H' => Q .non H', rt := Q } (start ["_law_script", "_law_k"] vs) H := by
  obtain ⟨a, ns, k, rfl, hk0, ha, q⟩ := h
  obtain ⟨k, rfl⟩ := Int.eq_ofNat_of_zero_le hk0
  rw [Int.toNat_natCast] at q
  unfold t_l_cell_at
  walk_at "rd"
  refine x_ite (fun e => ?_) (fun e => ?_)
  · walk_at "rd"
    rw [len_I] at e
    have hk : k < ns.length := by simpa using e
    refine x_ixL (by walk_at "sq") (v := .int ns[k]) ?_ ?_
    · rw [atI_nat]; unfold I_; rw [List.getElem?_map, List.getElem?_eq_getElem hk]; rfl
    · rw [show ns[k] = ns.getD k 0 by simp [List.getD, hk]]; exact q
  · walk_at "rd"
    rw [len_I] at e
    have hk : ¬ k < ns.length := by simpa using e
    rw [show ns.getD k 0 = 0 by simp [List.getD, List.getElem?_eq_none (show ns.length ≤ k by omega)]] at q
    exact q
end
end Kr
local macro_rules | `(tactic| walk_at "rc") => `(tactic| repeat (first | walk_at "rd1" | walk_at "rd2" | (refine Kr.y_cell (by decide) (by walk_at "sq") ?_)))
namespace Kr
/-! ### names, heads, values -/
def SIGNS : List Nat := ("abcdefghijklmnopqrstuvwxyz0123456789." : Str).cps.toList
def signsOk (z : Str) : Bool := z.cps.toList.all fun c => decide (c ∈ SIGNS)
def headB : V → Bool
  | .str z => decide (z.length ≤ 12) && signsOk z
  | _ => false
def nameB (v : V) : Bool := headB v && !decide (v = .str "")
def wholeB : V → Bool
  | .int _ => true
  | _ => false
def valB : V → Bool
  | .non => true
  | .int i => decide (-(10 ^ 30) ≤ i) && decide (i ≤ 10 ^ 30)
  | _ => false
def underB (n h : Str) : Bool := decide (cutS n none (some (h.length : Int)) = h)
/-- what is handed to them -/
inductive Thing (H : Hp) : V → Prop where
  | non : Thing H .non
  | bl (b : Bool) : Thing H (.bl b)
  | int (i : Int) : Thing H (.int i)
  | str (z : Str) (h : z.length ≤ 60000) : Thing H (.str z)
  | lst {a : Addr} {xs : List V} (h : H a = some (.lst xs)) : Thing H (.ref a)
  | tup {a : Addr} {xs : List V} (h : H a = some (.tup xs)) : Thing H (.ref a)
  | dict {a : Addr} {xs : List (Key × V)} (h : H a = some (.dK xs)) : Thing H (.ref a)
theorem Thing.ext {H H' : Hp} {v : V} (h : Thing H v) (e : Ext H H') : Thing H' v := by
  cases h with
  | non => exact .non
  | bl b => exact .bl b
  | int i => exact .int i
  | str z h => exact .str z h
  | lst h => exact .lst (e _ _ h)
  | tup h => exact .tup (e _ _ h)
  | dict h => exact .dict (e _ _ h)
def isiB (n : String) : V → Bool
  | .str _ => decide (n = "str")
  | .int _ => decide (n = "int")
  | .bl _ => decide (n = "bool" ∨ n = "int")
  | _ => false
def sp_is_head (_ : Program) (_ : World) (_ : PySem.W.Frag) : Sp := fun vs H Q _ => ∃ v, vs = [v] ∧ Thing H v ∧ Q (.bl (headB v)) H
def sp_is_name (_ : Program) (_ : World) (_ : PySem.W.Frag) : Sp := fun vs H Q _ => ∃ v, vs = [v] ∧ Thing H v ∧ Q (.bl (nameB v)) H
def sp_is_whole (_ : Program) (_ : World) (_ : PySem.W.Frag) : Sp := fun vs H Q _ => ∃ v, vs = [v] ∧ Thing H v ∧ Q (.bl (wholeB v)) H
def sp_is_value (_ : Program) (_ : World) (_ : PySem.W.Frag) : Sp := fun vs H Q _ => ∃ v, vs = [v] ∧ Thing H v ∧ Q (.bl (valB v)) H
def sp_is_under (_ : Program) (_ : World) (_ : PySem.W.Frag) : Sp := fun vs H Q _ => ∃ n h : Str, vs = [.str n, .str h] ∧ n.length ≤ 60000 ∧ h.length ≤ 60000 ∧ Q (.bl (underB n h)) H
section
variable {P : Program} {w : World} {K : PySem.W.Frag} {vs : List V} {H : Hp} {Q : VK} {E : XK}
theorem len_is_head (h : sp_is_head P w K vs H Q E) : vs.length = 1 := by obtain ⟨_, rfl, _⟩ := h; rfl
theorem len_is_name (h : sp_is_name P w K vs H Q E) : vs.length = 1 := by obtain ⟨_, rfl, _⟩ := h; rfl
theorem len_is_whole (h : sp_is_whole P w K vs H Q E) : vs.length = 1 := by obtain ⟨_, rfl, _⟩ := h; rfl
theorem len_is_value (h : sp_is_value P w K vs H Q E) : vs.length = 1 := by obtain ⟨_, rfl, _⟩ := h; rfl
theorem len_is_under (h : sp_is_under P w K vs H Q E) : vs.length = 2 := by obtain ⟨_, _, rfl, _⟩ := h; rfl
end
def t_is_head (P : Program) (w : World) (K : PySem.W.Frag) : TS :=
  (tSeq (tIfS (tOr (tNot (tB (tCB (rIsi K) (tCons (tVar 0) (tCons (tC (.ty "str")) tNil))))) (tTest (tOp r_gt (tCB c_lenS (tCons (tVar 0) tNil)) (tC (.int 12))))) (tRet (tC (.bl false))) tNext) (tSeq (tFor (iStr (tVar 0)) (gName 1) (tIfS (tTest (tOp r_niC (tVar 1) (tC (.str "abcdefghijklmnopqrstuvwxyz0123456789.")))) (tRet (tC (.bl false))) tNext)) (tRet (tC (.bl true)))))

def t_is_name (P : Program) (w : World) (K : PySem.W.Frag) : TS :=
  (tRet (tAndV (tCall (sp_is_head P w K) [] E0 (tCons (tVar 0) tNil)) (tOp rNe (tVar 0) (tC (.str "")))))

def t_is_whole (P : Program) (w : World) (K : PySem.W.Frag) : TS :=
  (tRet (tAndV (tCB (rIsi K) (tCons (tVar 0) (tCons (tC (.ty "int")) tNil))) (tNotV (tCB (rIsi K) (tCons (tVar 0) (tCons (tC (.ty "bool")) tNil))))))

def t_is_value (P : Program) (w : World) (K : PySem.W.Frag) : TS :=
  (tSeq (tIfS (tTest (tOp r_isN (tVar 0) (tC .non))) (tRet (tC (.bl true))) tNext) (tRet (tAndV (tCall (sp_is_whole P w K) [] E0 (tCons (tVar 0) tNil)) (tChain r_le r_le (tUn r_neg (tOp r_pow (tC (.int 10)) (tC (.int 30)))) (tVar 0) (tOp r_pow (tC (.int 10)) (tC (.int 30)))))))

def t_is_under (P : Program) (w : World) (K : PySem.W.Frag) : TS :=
  (tRet (tOp rEq (tSl rSlS (tVar 0) tNoPart (tPart (tCB c_lenS (tCons (tVar 1) tNil)))) (tVar 1)))

section
variable {P : Program} {w : World} {K : PySem.W.Frag} {vs : List V} {H : Hp} {Q : VK} {E : XK}
/-- isinstance of a thing -/
theorem y_isi {v : V} {n : String} (h : Thing H v) (hn : n = "str" ∨ n = "int" ∨ n = "bool") (q : Q (.bl (isiB n v)) H) : rIsi K [v, .ty n] H Q := by
  cases h with
  | non => rcases hn with rfl | rfl | rfl <;> exact x_isi (.ty _) (.base .non) (by rfl) q
  | bl b => rcases hn with rfl | rfl | rfl <;> exact x_isi (.ty _) (.base (.bl b)) (by rfl) q
  | int i => rcases hn with rfl | rfl | rfl <;> exact x_isi (.ty _) (.base (.int i)) (by rfl) q
  | str z h => rcases hn with rfl | rfl | rfl <;> exact x_isi (.ty _) (.base (.str z)) (by rfl) q
  | lst h => rcases hn with rfl | rfl | rfl <;> exact x_isi (.ty _) (.base (.lst h)) (by rfl) q
  | tup h => rcases hn with rfl | rfl | rfl <;> exact x_isi (.ty _) (.base (.tup h)) (by rfl) q
  | dict h => rcases hn with rfl | rfl | rfl <;> exact x_isi (.ty _) (.base (.dK h)) (by rfl) q
theorem rd_is_head (h : sp_is_head P w K vs H Q E) : t_is_head P w K { nx := fun _ H' => Q .non H', rt := Q } (start ["thing", "sign"] vs) H := by
  obtain ⟨v, rfl, hv, q⟩ := h
  unfold t_is_head
  walk_at "rd"
  refine y_isi hv (Or.inl rfl) ?_
  cases v with
  | str z =>
    cases hv with
    | str _ hz =>
    walk_at "rd"
    refine x_ite (fun h => absurd h (by simp [isiB])) (fun _ => ?_)
    walk_at "rd"
    refine x_lenS (by rw [sizeLine_eq]; omega) ?_
    walk_at "rd"
    refine x_ite (fun h => ?_) (fun h => ?_)
    · walk_at "rd"
      rw [show headB (.str z) = false by unfold headB; have : ¬ z.length ≤ 12 := by { have := of_decide_eq_true h; omega }; simp [this]] at q
      exact q
    · have hl : z.length ≤ 12 := by have := of_decide_eq_false h; omega
      walk_at "rd"
      refine x_forS (fun Q h => by walk_at "rd"; exact h) (fun i σ' H' => (∃ u, σ' = [some (.str z), u]) ∧ H' = H ∧ ∀ j < i, ∀ c, z.cps[j]? = some c → c ∈ SIGNS) ⟨⟨none, rfl⟩, rfl, fun j hj => absurd hj (Nat.not_lt_zero j)⟩ ?_ ?_
      · rintro i c σ' H' ec eH ⟨⟨u, rfl⟩, rfl, hall⟩
        walk_at "rd"
        refine x_niC ?_
        walk_at "rd"
        refine x_ite (fun h => ?_) (fun h => ?_)
        · have hc : ¬ c ∈ SIGNS := by simpa [SIGNS] using h
          walk_at "rd"
          rw [show headB (.str z) = false by
            unfold headB signsOk
            rw [Bool.and_eq_false_iff]
            refine Or.inr ?_
            rw [List.all_eq_false]
            exact ⟨c, List.mem_of_getElem? (by rw [Array.getElem?_toList]; exact ec), by simpa using hc⟩] at q
          exact q
        · have hc : c ∈ SIGNS := by simpa [SIGNS] using h
          walk_at "rd"
          refine ⟨eH, ⟨_, rfl⟩, rfl, fun j hj x hx => ?_⟩
          by_cases hji : j = i
          · subst hji
            rw [ec] at hx
            cases hx
            exact hc
          · exact hall j (by omega) x hx
      · rintro σ' H' eH ⟨⟨u, rfl⟩, rfl, hall⟩
        walk_at "rd"
        rw [show headB (.str z) = true by
          unfold headB signsOk
          rw [Bool.and_eq_true_iff]
          refine ⟨decide_eq_true hl, List.all_eq_true.mpr fun c hc => decide_eq_true ?_⟩
          obtain ⟨j, hj, rfl⟩ := List.getElem_of_mem hc
          exact hall j (by simpa using hj) _ (by rw [← Array.getElem?_toList, List.getElem?_eq_getElem hj])] at q
        exact q
  | _ =>
    walk_at "rd"
    refine x_ite (fun _ => ?_) (fun h => absurd h (by simp [isiB]))
    walk_at "rd"
    exact q
theorem rd_is_name (h : sp_is_name P w K vs H Q E) : t_is_name P w K { nx := fun _ H' => Q .non H', rt := Q } (start ["thing"] vs) H := by
  obtain ⟨v, rfl, hv, q⟩ := h
  unfold t_is_name
  walk_at "rd"
  refine ⟨v, rfl, hv, ?_⟩
  walk_at "rd"
  refine x_ite (fun h => ?_) (fun h => ?_)
  · unfold nameB at q
    rw [h, Bool.true_and] at q
    cases v with
    | str z =>
      walk_at "rd"
      rw [show decide (V.str z = V.str "") = decide (z = "") by simp] at q
      exact q
    | _ => cases h
  · unfold nameB at q
    rw [h] at q
    exact q
theorem rd_is_whole (h : sp_is_whole P w K vs H Q E) : t_is_whole P w K { nx := fun _ H' => Q .non H', rt := Q } (start ["thing"] vs) H := by
  obtain ⟨v, rfl, hv, q⟩ := h
  unfold t_is_whole
  walk_at "rd"
  refine y_isi hv (Or.inr (Or.inl rfl)) ?_
  cases v with
  | int z =>
    walk_at "rd"
    refine x_ite (fun _ => ?_) (fun h => absurd h (by simp [isiB]))
    walk_at "rd"
    refine y_isi hv (Or.inr (Or.inr rfl)) ?_
    walk_at "rd"
    exact q
  | bl z =>
    walk_at "rd"
    refine x_ite (fun _ => ?_) (fun h => absurd h (by simp [isiB]))
    walk_at "rd"
    refine y_isi hv (Or.inr (Or.inr rfl)) ?_
    walk_at "rd"
    exact q
  | _ =>
    walk_at "rd"
    first
      | exact q
      | (refine x_ite (fun h => absurd h (by simp [isiB])) (fun _ => ?_); exact q)
theorem rd_is_value (h : sp_is_value P w K vs H Q E) : t_is_value P w K { nx := fun _ H' => Q .non H', rt := Q } (start ["thing"] vs) H := by
  obtain ⟨v, rfl, hv, q⟩ := h
  unfold t_is_value
  walk_at "rd"
  refine x_ite (fun h => ?_) (fun h => ?_)
  · have e : v = .non := of_decide_eq_true h
    subst e
    walk_at "rd"
    exact q
  · walk_at "rd"
    refine ⟨v, rfl, hv, ?_⟩
    walk_at "rd"
    refine x_ite (fun h2 => ?_) (fun h2 => ?_)
    · cases v with
      | int i =>
        walk_at "rd"
        refine x_pow ⟨by decide, by decide, by decide⟩ ?_
        walk_at "rd"
        refine x_ite (fun h3 => ?_) (fun h3 => ?_)
        · walk_at "rd"
          refine x_pow ⟨by decide, by decide, by decide⟩ ?_
          walk_at "rd"
          have : valB (.int i) = decide (i ≤ 10 ^ Int.toNat 30) := by
            show (decide (-(10 ^ 30) ≤ i) && decide (i ≤ 10 ^ 30)) = _
            have h4 : decide (-(10 ^ 30 : Int) ≤ i) = true := h3
            rw [h4]; rfl
          rw [this] at q
          exact q
        · have : valB (.int i) = false := by
            show (decide (-(10 ^ 30) ≤ i) && decide (i ≤ 10 ^ 30)) = _
            have h4 : decide (-(10 ^ 30 : Int) ≤ i) = false := h3
            rw [h4]; rfl
          rw [this] at q
          exact q
      | _ => cases h2
    · rw [show valB v = false by
        cases v with
        | non => exact absurd h (by simp)
        | int i => cases h2
        | _ => rfl] at q
      exact q
theorem rd_is_under (h : sp_is_under P w K vs H Q E) : t_is_under P w K { nx := fun _ H' => Q .non H', rt := Q } (start ["name", "head"] vs) H := by
  obtain ⟨n, z, rfl, h1, h2, q⟩ := h
  unfold t_is_under
  walk_at "rd"
  refine x_lenS (by rw [sizeLine_eq]; omega) ?_
  walk_at "rd"
  refine x_slS (by rw [sizeLine_eq]; omega) ?_
  walk_at "rd"
  exact q
end
end Kr
namespace Kr
/-! ### drawn texts -/
theorem mixed_lt (n : Int) : 0 ≤ (n * 48271 + 7919) % 2147483647 ∧ (n * 48271 + 7919) % 2147483647 < 2147483647 := ⟨Int.emod_nonneg _ (by decide), Int.emod_lt_of_pos _ (by decide)⟩
def sp_l_mixed (_ : Program) (_ : World) (_ : PySem.W.Frag) : Sp := fun vs H Q _ => ∃ n : Int, vs = [.int n] ∧ Q (.int ((n * 48271 + 7919) % 2147483647)) H
section
variable {P : Program} {w : World} {K : PySem.W.Frag} {vs : List V} {H : Hp} {Q : VK} {E : XK}
theorem len_l_mixed (h : sp_l_mixed P w K vs H Q E) : vs.length = 1 := by obtain ⟨_, rfl, _⟩ := h; rfl
theorem y_mixed {n : Int} (h : Q (.int ((n * 48271 + 7919) % 2147483647)) H) : sp_l_mixed P w K ([.int n] ++ []) H Q E := ⟨n, rfl, h⟩
/-- the k-th sign of a text -/
theorem y_ixS {z : Str} {i : Int} (hz : z.length ≤ 60000) (h0 : 0 ≤ i) (h1 : i < z.length) (h : ∀ c, c ∈ z.cps.toList → Q (.str ⟨#[c]⟩) H) : rIxS (.str z) (.int i) H Q := by
  obtain ⟨k, rfl⟩ := Int.eq_ofNat_of_zero_le h0
  have hk : k < z.cps.toList.length := by
    have : z.length = z.cps.toList.length := by unfold Str.length; simp
    omega
  exact x_ixS (by rw [sizeLine_eq]; omega) (by rw [atI_nat]; exact List.getElem?_eq_getElem hk) (h _ (List.getElem_mem hk))
theorem len1 (c : Nat) : (⟨#[c]⟩ : Str).length = 1 := rfl
theorem signsOk_append {x y : Str} (hx : signsOk x = true) (hy : signsOk y = true) : signsOk (x ++ y) = true := by
  unfold signsOk at *
  rw [Str.cps_append, Array.toList_append, List.all_append, hx, hy]; rfl
theorem signsOk_one {c : Nat} (h : c ∈ SIGNS) : signsOk ⟨#[c]⟩ = true := by
  unfold signsOk
  simp [h]
theorem signsOk_cut {z : Str} {lo hi : Option Int} (h : signsOk z = true) : signsOk (cutS z lo hi) = true := by
  unfold signsOk cutS at *
  rw [List.all_eq_true] at *
  intro c hc
  exact h c (List.mem_of_mem_drop (List.mem_of_mem_take (by simpa using hc)))
end
def t_l_mixed (P : Program) (w : World) (K : PySem.W.Frag) : TS :=
  (tRet (tOp r_mod (tOp r_add (tOp r_mul (tVar 0) (tC (.int 48271))) (tC (.int 7919))) (tC (.int 2147483647))))

theorem rd_l_mixed {P : Program} {w : World} {K : PySem.W.Frag} {vs : List V} {H : Hp} {Q : VK} {E : XK} (h : sp_l_mixed P w K vs H Q E) : t_l_mixed P w K { nx := fun _ H' => Q .non H', rt := Q } (start ["_law_number"] vs) H := by
  obtain ⟨n, rfl, q⟩ := h
  unfold t_l_mixed
  walk_at "rd"
  exact q
end Kr
namespace Kr
def sp_l_text_by (_ : Program) (_ : World) (_ : PySem.W.Frag) : Sp := fun vs H Q _ => ∃ n m : Int, vs = [.int n, .int m] ∧ 0 ≤ m ∧ m ≤ 60 ∧ ∀ z : Str, (z.length : Int) = m → signsOk z = true → Q (.str z) H
def sp_l_sign_by (_ : Program) (_ : World) (_ : PySem.W.Frag) : Sp := fun vs H Q _ => ∃ n : Int, vs = [.int n] ∧ ∀ c : Nat, Q (.str ⟨#[c]⟩) H
def sp_l_good (_ : Program) (_ : World) (_ : PySem.W.Frag) : Sp := fun vs H Q _ => ∃ z : Str, vs = [.str z] ∧ z.length ≤ 60000 ∧ Q (.bl (headB (.str z))) H
def sp_l_asked (_ : Program) (_ : World) (K : PySem.W.Frag) : Sp := fun vs H Q _ => ∃ (v : V) (d : Addr), vs = [v, .ref d] ∧ Thing H v ∧ H d = some (.lst [.bl (nameB v), .bl (headB v), .bl (valB v)]) ∧ ∀ H', Ext H H' → Q (.bl true) H'
def sp_law (_ : Program) (_ : World) (K : PySem.W.Frag) : Sp := fun vs H Q _ => ∃ a ns, vs = [.ref a] ∧ SqL K H a (I_ ns) ∧ ns.length ≤ 63 ∧ ∀ H', Q (.bl true) H'
section
variable {P : Program} {w : World} {K : PySem.W.Frag} {vs : List V} {H : Hp} {Q : VK} {E : XK}
theorem len_l_text_by (h : sp_l_text_by P w K vs H Q E) : vs.length = 2 := by obtain ⟨_, _, rfl, _⟩ := h; rfl
theorem len_l_sign_by (h : sp_l_sign_by P w K vs H Q E) : vs.length = 1 := by obtain ⟨_, rfl, _⟩ := h; rfl
theorem len_l_good (h : sp_l_good P w K vs H Q E) : vs.length = 1 := by obtain ⟨_, rfl, _⟩ := h; rfl
theorem len_l_asked (h : sp_l_asked P w K vs H Q E) : vs.length = 2 := by obtain ⟨_, _, rfl, _⟩ := h; rfl
theorem len_law (h : sp_law P w K vs H Q E) : vs.length = 1 := by obtain ⟨_, _, rfl, _⟩ := h; rfl
end
def t_l_text_by (P : Program) (w : World) (K : PySem.W.Frag) : TS :=
  (tSeq (tAsg (tC (.str "abcdefghijklmnopqrstuvwxyz0123456789.")) (gName 2)) (tSeq (tAsg (tC (.str "")) (gName 3)) (tSeq (tAsg (tVar 0) (gName 4)) (tSeq (tFor (iRng1 (tCons (tVar 1) tNil)) (gName 5) (tSeq (tAsg (tCall (sp_l_mixed P w K) [] E0 (tCons (tVar 4) tNil)) (gName 4)) (tAsg (tOp r_cat (tVar 3) (tOp rIxS (tVar 2) (tOp r_mod (tVar 4) (tC (.int 37))))) (gName 3)))) (tRet (tVar 3))))))

def t_l_sign_by (P : Program) (w : World) (K : PySem.W.Frag) : TS :=
  (tSeq (tAsg (tC (.str " !\"#$&'()*+,-./0123456789:;<=>?@ABCDEFGHIJKLMNOPQRSTUVWXYZ[\\]^_`")) (gName 1)) (tSeq (tAsg (tOp r_cat (tVar 1) (tC (.str "abcdefghijklmnopqrstuvwxyz{|}~\n\t"))) (gName 1)) (tRet (tOp rIxS (tVar 1) (tOp r_mod (tVar 0) (tC (.int 96)))))))

def t_l_good (P : Program) (w : World) (K : PySem.W.Frag) : TS :=
  (tSeq (tFor (iStr (tVar 0)) (gName 1) (tIfS (tTest (tOp r_niC (tVar 1) (tC (.str "abcdefghijklmnopqrstuvwxyz0123456789.")))) (tRet (tC (.bl false))) tNext)) (tRet (tOp r_le (tCB c_lenS (tCons (tVar 0) tNil)) (tC (.int 12)))))

def t_l_asked (P : Program) (w : World) (K : PySem.W.Frag) : TS :=
  (tSeq (tAsg (tLst (tCons (tCall (sp_is_name P w K) [] E0 (tCons (tVar 0) tNil)) (tCons (tCall (sp_is_head P w K) [] E0 (tCons (tVar 0) tNil)) (tCons (tCall (sp_is_value P w K) [] E0 (tCons (tVar 0) tNil)) tNil)))) (gName 2)) (tSeq (tFor (iList K (tVar 2)) (gName 3) (tIfS (tNot (tB (tCB (rIsi K) (tCons (tVar 3) (tCons (tC (.ty "bool")) tNil))))) (tRet (tC (.bl false))) tNext)) (tRet (tOp (rEqD K) (tVar 2) (tVar 1)))))

def t_law_j1 (P : Program) (w : World) (K : PySem.W.Frag) : TS :=
  (tAsg (tOp r_cat (tOp r_cat (tSl rSlS (tVar 2) tNoPart (tPart (tVar 3))) (tVar 4)) (tSl rSlS (tVar 2) (tPart (tOp r_add (tVar 3) (tC (.int 1)))) tNoPart)) (gName 2))
def t_law_j2 (P : Program) (w : World) (K : PySem.W.Frag) : TS :=
  (tSeq (tAsg (tCall (sp_is_under P w K) [] E0 (tCons (tVar 7) (tCons (tVar 8) tNil))) (gName 9)) (tRet (tAndV (tCB (rIsi K) (tCons (tVar 9) (tCons (tC (.ty "bool")) tNil))) (tOp rEq (tVar 9) (tOp rEq (tSl rSlS (tVar 7) tNoPart (tPart (tCB c_lenS (tCons (tVar 8) tNil)))) (tVar 8))))))
def t_law_j3 (P : Program) (w : World) (K : PySem.W.Frag) : TS :=
  (tSeq (tIfS (tTest (tOp rEq (tOp r_mod (tCall (sp_l_cell_at P w K) [] E0 (tCons (tVar 0) (tCons (tC (.int 8)) tNil))) (tC (.int 3))) (tC (.int 2)))) (tAsg (tSl rSlS (tVar 7) (tPart (tOp r_mod (tCall (sp_l_cell_at P w K) [] E0 (tCons (tVar 0) (tCons (tC (.int 7)) tNil))) (tCB c_lenS (tCons (tVar 7) tNil)))) tNoPart) (gName 8)) tNext) (t_law_j2 P w K))
def t_law_j4 (P : Program) (w : World) (K : PySem.W.Frag) : TS :=
  (tSeq (tAsg (tCall (sp_l_text_by P w K) [] E0 (tCons (tCall (sp_l_cell_at P w K) [] E0 (tCons (tVar 0) (tCons (tC (.int 5)) tNil))) (tCons (tOp r_add (tC (.int 1)) (tOp r_mod (tCall (sp_l_cell_at P w K) [] E0 (tCons (tVar 0) (tCons (tC (.int 6)) tNil))) (tC (.int 12)))) tNil))) (gName 7)) (tSeq (tAsg (tSl rSlS (tVar 7) tNoPart (tPart (tOp r_mod (tCall (sp_l_cell_at P w K) [] E0 (tCons (tVar 0) (tCons (tC (.int 7)) tNil))) (tOp r_add (tCB c_lenS (tCons (tVar 7) tNil)) (tC (.int 1)))))) (gName 8)) (tSeq (tIfS (tTest (tOp rEq (tOp r_mod (tCall (sp_l_cell_at P w K) [] E0 (tCons (tVar 0) (tCons (tC (.int 8)) tNil))) (tC (.int 3))) (tC (.int 1)))) (tAsg (tCall (sp_l_text_by P w K) [] E0 (tCons (tCall (sp_l_cell_at P w K) [] E0 (tCons (tVar 0) (tCons (tC (.int 8)) tNil))) (tCons (tOp r_mod (tCall (sp_l_cell_at P w K) [] E0 (tCons (tVar 0) (tCons (tC (.int 7)) tNil))) (tC (.int 13))) tNil))) (gName 8)) tNext) (t_law_j3 P w K))))
def t_law_j5 (P : Program) (w : World) (K : PySem.W.Frag) : TS :=
  (tSeq (tFor (iList K (tLst (tCons (tC (.bl true)) (tCons (tC (.bl false)) (tCons (tLst (tCons (tVar 2) tNil)) (tCons (tTup (tCons (tVar 2) tNil)) tNil)))))) (gName 6) (tIfS (tNot (tB (tCall (sp_l_asked P w K) [] E0 (tCons (tVar 6) (tCons (tLst (tCons (tC (.bl false)) (tCons (tC (.bl false)) (tCons (tC (.bl false)) tNil)))) tNil))))) (tRet (tC (.bl false))) tNext)) (tSeq (tIfS (tNot (tB (tCall (sp_l_asked P w K) [] E0 (tCons (tC .non) (tCons (tLst (tCons (tC (.bl false)) (tCons (tC (.bl false)) (tCons (tC (.bl true)) tNil)))) tNil))))) (tRet (tC (.bl false))) tNext) (t_law_j4 P w K)))
def t_law_j6 (P : Program) (w : World) (K : PySem.W.Frag) : TS :=
  (tSeq (tIfS (tNot (tB (tCall (sp_l_asked P w K) [] E0 (tCons (tVar 5) (tCons (tLst (tCons (tC (.bl false)) (tCons (tC (.bl false)) (tCons (tAndV (tOp r_le (tUn r_neg (tOp r_pow (tC (.int 10)) (tC (.int 30)))) (tVar 5)) (tOp r_le (tVar 5) (tOp r_pow (tC (.int 10)) (tC (.int 30))))) tNil)))) tNil))))) (tRet (tC (.bl false))) tNext) (t_law_j5 P w K))
def t_law_j7 (P : Program) (w : World) (K : PySem.W.Frag) : TS :=
  (tSeq (tAsg (tCall (sp_l_cell_at P w K) [] E0 (tCons (tVar 0) (tCons (tC (.int 4)) tNil))) (gName 5)) (tSeq (tIfS (tTest (tOp rEq (tOp r_mod (tVar 5) (tC (.int 2))) (tC (.int 0)))) (tAsg (tOp r_sub (tOp r_add (tOp (rIxL K) (tLst (tCons (tOp r_pow (tC (.int 10)) (tC (.int 30))) (tCons (tUn r_neg (tOp r_pow (tC (.int 10)) (tC (.int 30)))) tNil))) (tOp r_mod (tOp r_div (tVar 5) (tC (.int 2))) (tC (.int 2)))) (tOp r_mod (tOp r_div (tVar 5) (tC (.int 4))) (tC (.int 7)))) (tC (.int 3))) (gName 5)) tNext) (t_law_j6 P w K)))
def t_law_j8 (P : Program) (w : World) (K : PySem.W.Frag) : TS :=
  (tSeq (tIfS (tNot (tB (tCall (sp_l_asked P w K) [] E0 (tCons (tVar 2) (tCons (tLst (tCons (tAndV (tCall (sp_l_good P w K) [] E0 (tCons (tVar 2) tNil)) (tOp rNe (tVar 2) (tC (.str "")))) (tCons (tCall (sp_l_good P w K) [] E0 (tCons (tVar 2) tNil)) (tCons (tC (.bl false)) tNil)))) tNil))))) (tRet (tC (.bl false))) tNext) (t_law_j7 P w K))
def t_law (P : Program) (w : World) (K : PySem.W.Frag) : TS :=
  (tSeq (tAsg (tOp r_mod (tCall (sp_l_cell_at P w K) [] E0 (tCons (tVar 0) (tCons (tC (.int 0)) tNil))) (tC (.int 15))) (gName 1)) (tSeq (tAsg (tCall (sp_l_text_by P w K) [] E0 (tCons (tCall (sp_l_cell_at P w K) [] E0 (tCons (tVar 0) (tCons (tC (.int 1)) tNil))) (tCons (tVar 1) tNil))) (gName 2)) (tSeq (tIfS (tAnd (tTest (tOp r_gt (tVar 1) (tC (.int 0)))) (tTest (tOp rEq (tOp r_mod (tCall (sp_l_cell_at P w K) [] E0 (tCons (tVar 0) (tCons (tC (.int 2)) tNil))) (tC (.int 3))) (tC (.int 1))))) (tSeq (tAsg (tOp r_mod (tOp r_div (tCall (sp_l_cell_at P w K) [] E0 (tCons (tVar 0) (tCons (tC (.int 2)) tNil))) (tC (.int 3))) (tVar 1)) (gName 3)) (tSeq (tAsg (tCall (sp_l_sign_by P w K) [] E0 (tCons (tCall (sp_l_cell_at P w K) [] E0 (tCons (tVar 0) (tCons (tC (.int 3)) tNil))) tNil)) (gName 4)) (tSeq (tIfS (tTest (tOp rEq (tOp r_mod (tCall (sp_l_cell_at P w K) [] E0 (tCons (tVar 0) (tCons (tC (.int 3)) tNil))) (tC (.int 3))) (tC (.int 1)))) (tAsg (tOp rIxS (tC (.str "09az./:")) (tOp r_mod (tOp r_div (tCall (sp_l_cell_at P w K) [] E0 (tCons (tVar 0) (tCons (tC (.int 3)) tNil))) (tC (.int 3))) (tC (.int 7)))) (gName 4)) tNext) (t_law_j1 P w K)))) tNext) (t_law_j8 P w K))))

section
variable {P : Program} {w : World} {K : PySem.W.Frag} {vs : List V} {H : Hp} {Q : VK} {E : XK}
theorem rd_l_text_by (h : sp_l_text_by P w K vs H Q E) : t_l_text_by P w K { nx := fun _ H' => Q .non H', rt := Q } (start ["_law_cell", "_law_size", "_law_some", "_law_made", "_law_number", "_law_k"] vs) H := by
  obtain ⟨n, m, rfl, h0, h1, q⟩ := h
  unfold t_l_text_by
  walk_at "rd"
  refine x_forR (j := m) (by omega) (fun Q h => by walk_at "rd"; exact h) (fun i σ' H' => H' = H ∧ ∃ (z : Str) (g : Int) (u : Option V), σ' = [some (.int n), some (.int m), some (.str "abcdefghijklmnopqrstuvwxyz0123456789."), some (.str z), some (.int g), u] ∧ z.length = i ∧ signsOk z = true) ⟨rfl, ⟨#[]⟩, n, none, rfl, rfl, rfl⟩ ?_ ?_
  · rintro i σ' H' hi eH ⟨rfl, z, g, u, rfl, hz, hs⟩
    walk_at "rd"
    refine y_mixed ?_
    walk_at "rd"
    refine y_ixS (by decide) (Int.emod_nonneg _ (by decide)) (Int.emod_lt_of_pos _ (by decide)) fun c hc => ?_
    refine x_cat (by rw [sizeLine_eq, len1]; omega) ?_
    refine ⟨eH, rfl, z ++ ⟨#[c]⟩, _, _, rfl, by rw [Str.length_append, len1, hz], signsOk_append hs (signsOk_one hc)⟩
  · rintro σ' H' eH ⟨rfl, z, g, u, rfl, hz, hs⟩
    walk_at "rd"
    exact q z (by omega) hs
theorem rd_l_sign_by (h : sp_l_sign_by P w K vs H Q E) : t_l_sign_by P w K { nx := fun _ H' => Q .non H', rt := Q } (start ["_law_cell", "_law_some"] vs) H := by
  obtain ⟨n, rfl, q⟩ := h
  unfold t_l_sign_by
  walk_at "rd"
  refine x_cat (by rw [sizeLine_eq]; decide) ?_
  walk_at "rd"
  exact y_ixS (by decide) (Int.emod_nonneg _ (by decide)) (Int.emod_lt_of_pos _ (by decide)) fun c hc => q c
theorem rd_l_good (h : sp_l_good P w K vs H Q E) : t_l_good P w K { nx := fun _ H' => Q .non H', rt := Q } (start ["_law_made", "_law_sign"] vs) H := by
  obtain ⟨z, rfl, hz, q⟩ := h
  unfold t_l_good
  walk_at "rd"
  refine x_forS (fun Q h => by walk_at "rd"; exact h) (fun i σ' H' => (∃ u, σ' = [some (.str z), u]) ∧ H' = H ∧ ∀ j < i, ∀ c, z.cps[j]? = some c → c ∈ SIGNS) ⟨⟨none, rfl⟩, rfl, fun j hj => absurd hj (Nat.not_lt_zero j)⟩ ?_ ?_
  · rintro i c σ' H' ec eH ⟨⟨u, rfl⟩, rfl, hall⟩
    walk_at "rd"
    refine x_niC ?_
    walk_at "rd"
    refine x_ite (fun h => ?_) (fun h => ?_)
    · have hc : ¬ c ∈ SIGNS := by simpa [SIGNS] using h
      walk_at "rd"
      rw [show headB (.str z) = false by
        unfold headB signsOk
        rw [Bool.and_eq_false_iff]
        refine Or.inr ?_
        rw [List.all_eq_false]
        exact ⟨c, List.mem_of_getElem? (by rw [Array.getElem?_toList]; exact ec), by simpa using hc⟩] at q
      exact q
    · have hc : c ∈ SIGNS := by simpa [SIGNS] using h
      walk_at "rd"
      refine ⟨eH, ⟨_, rfl⟩, rfl, fun j hj x hx => ?_⟩
      by_cases hji : j = i
      · subst hji
        rw [ec] at hx
        cases hx
        exact hc
      · exact hall j (by omega) x hx
  · rintro σ' H' eH ⟨⟨u, rfl⟩, rfl, hall⟩
    walk_at "rd"
    refine x_lenS (by rw [sizeLine_eq]; omega) ?_
    walk_at "rd"
    rw [show headB (.str z) = decide ((z.length : Int) ≤ 12) by
      have hs : signsOk z = true := by
        unfold signsOk
        refine List.all_eq_true.mpr fun c hc => decide_eq_true ?_
        obtain ⟨j, hj, rfl⟩ := List.getElem_of_mem hc
        exact hall j (by simpa using hj) _ (by rw [← Array.getElem?_toList, List.getElem?_eq_getElem hj])
      show (decide (z.length ≤ 12) && signsOk z) = _
      rw [hs, Bool.and_true]
      congr 1
      rw [eq_iff_iff]
      omega] at q
    exact q
theorem y_eqBs {a b : Addr} {x y z : Bool} (ha : SqL K H a [.bl x, .bl y, .bl z]) (hb : SqL K H b [.bl x, .bl y, .bl z]) (h : Q (.bl true) H) : rEqD K (.ref a) (.ref b) H Q := by
  have d : DpAll K H [.bl x, .bl y, .bl z] [.bool x, .bool y, .bool z] := .cons (.bl x) (.cons (.bl y) (.cons (.bl z) .nil))
  refine ⟨.list [.bool x, .bool y, .bool z], .list [.bool x, .bool y, .bool z], .lst ha d, .lst hb d, by rfl, by rfl, ?_⟩
  rw [SeqAt.eqv_refl _ (by rfl)]
  exact h
theorem rd_l_asked (h : sp_l_asked P w K vs H Q E) : t_l_asked P w K { nx := fun _ H' => Q .non H', rt := Q } (start ["_law_thing", "_law_due", "_law_told", "_law_answer"] vs) H := by
  obtain ⟨v, d, rfl, hv, hd, q⟩ := h
  unfold t_l_asked
  walk_at "rd"
  refine ⟨v, rfl, hv, ?_⟩
  walk_at "rd"
  refine ⟨v, rfl, hv, ?_⟩
  walk_at "rd"
  refine ⟨v, rfl, hv, ?_⟩
  walk_at "rd"
  rename_i p H1 hp e1 g1
  refine x_forL (xs := [.bl (nameB v), .bl (headB v), .bl (valB v)]) (by walk_at "sq") (fun Q h => by walk_at "rd"; exact h) (fun i σ' H' => ∃ u, σ' = [some v, some (.ref d), some (.ref p), u]) ⟨none, rfl⟩ ?_ ?_
  · rintro i x σ' H' ex hi eH ⟨u, rfl⟩
    have hx : ∃ b, x = .bl b := by
      have := List.mem_of_getElem? ex
      simp at this
      rcases this with rfl | rfl | rfl <;> exact ⟨_, rfl⟩
    obtain ⟨b, rfl⟩ := hx
    walk_at "rd"
    refine y_isi (.bl b) (Or.inr (Or.inr rfl)) ?_
    walk_at "rd"
    refine x_ite (fun h => absurd h (by simp [isiB])) (fun _ => ?_)
    walk_at "rd"
    exact ⟨by walk_at "ext", _, rfl⟩
  · rintro σ' H' eH ⟨u, rfl⟩
    walk_at "rd"
    refine y_eqBs (x := nameB v) (y := headB v) (z := valB v) (by walk_at "sq") (by walk_at "sq") ?_
    exact q _ (by walk_at "ext")
theorem y_asked {v : V} {d : Addr} {x y z : Bool} (hv : Thing H v) (hd : H d = some (.lst [.bl x, .bl y, .bl z])) (e1 : nameB v = x) (e2 : headB v = y) (e3 : valB v = z) (q : ∀ H', Ext H H' → Q (.bl true) H') : sp_l_asked P w K ([v, .ref d] ++ []) H Q E := by
  subst e1 e2 e3
  exact ⟨v, d, rfl, hv, hd, q⟩
theorem x_forLG {te : TE} {g : TG} {tb : TS} {D : Ends} {σ : St} (h : te σ H fun x H1 => tFor (iList K (tC x)) g tb D σ H1) : tFor (iList K te) g tb D σ H := h
theorem cut_le {z : Str} {lo hi : Option Int} {n : Nat} (h : z.length ≤ n) : (cutS z lo hi).length ≤ n := Nat.le_trans (cutS_length z lo hi) h
abbrev DD (Q : VK) : Ends := { nx := fun _ H' => Q .non H', rt := Q }
theorem law_2 {a : Addr} {v1 v2 v3 v4 v5 v6 v9 : Option V} {nm hd : Str} (q : ∀ H' : Hp, Q (.bl true) H') (h1 : nm.length ≤ 60) (h2 : hd.length ≤ 60) :
    t_law_j2 P w K (DD Q) [some (.ref a), v1, v2, v3, v4, v5, v6, some (.str nm), some (.str hd), v9] H := by
  unfold t_law_j2
  walk_at "rd"
  refine ⟨nm, hd, rfl, by omega, by omega, ?_⟩
  walk_at "rd"
  refine y_isi (.bl _) (Or.inr (Or.inr rfl)) ?_
  walk_at "rd"
  refine x_ite (fun _ => ?_) (fun h => absurd h (by simp [isiB]))
  walk_at "rd"
  refine x_lenS (by rw [sizeLine_eq]; omega) ?_
  walk_at "rd"
  refine x_slS (by rw [sizeLine_eq]; omega) ?_
  walk_at "rd"
  refine x_eqV rfl ?_
  rw [show decide (V.bl (underB nm hd) = V.bl (decide (cutS nm none (some (hd.length : Int)) = hd))) = true by simp [underB]]
  exact q _
theorem law_3 {a : Addr} {ns : List Int} {v1 v2 v3 v4 v5 v6 v9 : Option V} {nm hd : Str} (q : ∀ H' : Hp, Q (.bl true) H') (ha : SqL K H a (I_ ns)) (h1 : nm.length ≤ 60) (h0 : 0 < nm.length) (h2 : hd.length ≤ 60) :
    t_law_j3 P w K (DD Q) [some (.ref a), v1, v2, v3, v4, v5, v6, some (.str nm), some (.str hd), v9] H := by
  unfold t_law_j3
  walk_at "rc"
  refine x_ite (fun _ => ?_) (fun _ => ?_)
  · walk_at "rc"
    refine x_lenS (by rw [sizeLine_eq]; omega) ?_
    walk_at "rc"
    refine x_slS (by rw [sizeLine_eq]; omega) ?_
    exact law_2 q h1 (cut_le h1)
  · walk_at "rc"
    exact law_2 q h1 h2
theorem law_4 {a : Addr} {ns : List Int} {v1 v2 v3 v4 v5 v6 v7 v8 v9 : Option V} (q : ∀ H' : Hp, Q (.bl true) H') (ha : SqL K H a (I_ ns)) :
    t_law_j4 P w K (DD Q) [some (.ref a), v1, v2, v3, v4, v5, v6, v7, v8, v9] H := by
  unfold t_law_j4
  walk_at "rc"
  refine ⟨_, _, rfl, by omega, by omega, fun nm hz hs => ?_⟩
  have l1 : nm.length ≤ 60 := by omega
  have l0 : 0 < nm.length := by omega
  walk_at "rc"
  refine x_lenS (by rw [sizeLine_eq]; omega) ?_
  walk_at "rc"
  refine x_slS (by rw [sizeLine_eq]; omega) ?_
  walk_at "rc"
  refine x_ite (fun _ => ?_) (fun _ => ?_)
  · walk_at "rc"
    refine ⟨_, _, rfl, by omega, by omega, fun hd hz2 _ => ?_⟩
    walk_at "rc"
    exact law_3 q ha l1 l0 (by omega)
  · walk_at "rc"
    exact law_3 q ha l1 l0 (cut_le l1)
theorem law_5 {a : Addr} {ns : List Int} {v1 v3 v4 v5 v6 v7 v8 v9 : Option V} {z : Str} (q : ∀ H' : Hp, Q (.bl true) H') (ha : SqL K H a (I_ ns)) (h1 : z.length ≤ 600) :
    t_law_j5 P w K (DD Q) [some (.ref a), v1, some (.str z), v3, v4, v5, v6, v7, v8, v9] H := by
  unfold t_law_j5
  walk_at "rd"
  refine x_forLG ?_
  walk_at "rd"
  rename_i pl H1 hpl e1 g1 pt H2 hpt e2 g2 p H3 hp e3 g3
  refine x_forL (xs := [.bl true, .bl false, .ref pl, .ref pt]) (by walk_at "sq") (fun Q h => by walk_at "rd"; exact h) (fun i σ' H' => ∃ u, σ' = [some (.ref a), v1, some (.str z), v3, v4, v5, u, v7, v8, v9]) ⟨v6, rfl⟩ ?_ ?_
  · rintro i x σ' H' ex hi eH ⟨u, rfl⟩
    have hx : (∃ b, x = .bl b) ∨ x = .ref pl ∨ x = .ref pt := by
      have := List.mem_of_getElem? ex
      simp at this
      rcases this with rfl | rfl | rfl | rfl
      · exact .inl ⟨_, rfl⟩
      · exact .inl ⟨_, rfl⟩
      · exact .inr (.inl rfl)
      · exact .inr (.inr rfl)
    have ht : Thing H' x ∧ nameB x = false ∧ headB x = false ∧ valB x = false := by
      rcases hx with ⟨b, rfl⟩ | rfl | rfl
      · exact ⟨.bl b, rfl, rfl, rfl⟩
      · exact ⟨.lst (by walk_at "get"), rfl, rfl, rfl⟩
      · exact ⟨.tup (by walk_at "get"), rfl, rfl, rfl⟩
    clear hx ex
    walk_at "rd"
    refine y_asked (ht.1.ext (by walk_at "ext")) (by assumption) ht.2.1 ht.2.2.1 ht.2.2.2 fun H5 e5 => ?_
    walk_at "rd"
    refine x_ite (fun h => absurd h (by simp)) (fun _ => ?_)
    walk_at "rd"
    exact ⟨by walk_at "ext", _, rfl⟩
  · rintro σ' H' eH ⟨u, rfl⟩
    walk_at "rd"
    refine y_asked .non (by assumption) rfl rfl rfl fun H5 e5 => ?_
    walk_at "rd"
    refine x_ite (fun h => absurd h (by simp)) (fun _ => ?_)
    walk_at "rd"
    exact law_4 q (by walk_at "sq")
theorem law_6 {a : Addr} {ns : List Int} {v1 v3 v4 v6 v7 v8 v9 : Option V} {z : Str} {n : Int} (q : ∀ H' : Hp, Q (.bl true) H') (ha : SqL K H a (I_ ns)) (h1 : z.length ≤ 600) :
    t_law_j6 P w K (DD Q) [some (.ref a), v1, some (.str z), v3, v4, some (.int n), v6, v7, v8, v9] H := by
  unfold t_law_j6
  walk_at "rd"
  refine x_pow ⟨by decide, by decide, by decide⟩ ?_
  walk_at "rd"
  refine x_ite (fun h => ?_) (fun h => ?_)
  · walk_at "rd"
    refine x_pow ⟨by decide, by decide, by decide⟩ ?_
    walk_at "rd"
    refine y_asked (.int n) (by assumption) rfl rfl ?_ fun H5 e5 => ?_
    · show (decide (-(10 ^ 30) ≤ n) && decide (n ≤ 10 ^ 30)) = _
      have h4 : decide (-(10 ^ 30 : Int) ≤ n) = true := h
      rw [h4]; rfl
    walk_at "rd"
    refine x_ite (fun h => absurd h (by simp)) (fun _ => ?_)
    walk_at "rd"
    exact law_5 q (by walk_at "sq") h1
  · walk_at "rd"
    refine y_asked (.int n) (by assumption) rfl rfl ?_ fun H5 e5 => ?_
    · show (decide (-(10 ^ 30) ≤ n) && decide (n ≤ 10 ^ 30)) = _
      have h4 : decide (-(10 ^ 30 : Int) ≤ n) = false := h
      rw [h4]; rfl
    walk_at "rd"
    refine x_ite (fun h => absurd h (by simp)) (fun _ => ?_)
    walk_at "rd"
    exact law_5 q (by walk_at "sq") h1
theorem law_7 {a : Addr} {ns : List Int} {v1 v3 v4 v5 v6 v7 v8 v9 : Option V} {z : Str} (q : ∀ H' : Hp, Q (.bl true) H') (ha : SqL K H a (I_ ns)) (h1 : z.length ≤ 600) :
    t_law_j7 P w K (DD Q) [some (.ref a), v1, some (.str z), v3, v4, v5, v6, v7, v8, v9] H := by
  unfold t_law_j7
  walk_at "rc"
  refine x_ite (fun _ => ?_) (fun _ => ?_)
  · walk_at "rc"
    refine x_pow ⟨by decide, by decide, by decide⟩ ?_
    walk_at "rc"
    refine x_pow ⟨by decide, by decide, by decide⟩ ?_
    walk_at "rc"
    have h0 := Int.emod_nonneg (ns.getD (Int.toNat 4) 0 / 2) (show (2 : Int) ≠ 0 by decide)
    have h2 := Int.emod_lt_of_pos (ns.getD (Int.toNat 4) 0 / 2) (show (0 : Int) < 2 by decide)
    generalize ns.getD (Int.toNat 4) 0 / 2 % 2 = m at *
    have hm : m = 0 ∨ m = 1 := by omega
    rcases hm with rfl | rfl
    · walk_at "rc"
      exact law_6 q (by walk_at "sq") h1
    · walk_at "rc"
      exact law_6 q (by walk_at "sq") h1
  · walk_at "rc"
    exact law_6 q ha h1
theorem law_8 {a : Addr} {ns : List Int} {v1 v3 v4 v5 v6 v7 v8 v9 : Option V} {z : Str} (q : ∀ H' : Hp, Q (.bl true) H') (ha : SqL K H a (I_ ns)) (h1 : z.length ≤ 600) :
    t_law_j8 P w K (DD Q) [some (.ref a), v1, some (.str z), v3, v4, v5, v6, v7, v8, v9] H := by
  unfold t_law_j8
  walk_at "rd"
  refine ⟨z, rfl, by omega, ?_⟩
  walk_at "rd"
  refine x_ite (fun h => ?_) (fun h => ?_)
  · walk_at "rd"
    refine ⟨z, rfl, by omega, ?_⟩
    walk_at "rd"
    refine y_asked (.str z (by omega)) (by assumption) ?_ rfl rfl fun H5 e5 => ?_
    · unfold nameB
      rw [h]
      simp
    walk_at "rd"
    refine x_ite (fun h => absurd h (by simp)) (fun _ => ?_)
    walk_at "rd"
    exact law_7 q (by walk_at "sq") h1
  · walk_at "rd"
    refine ⟨z, rfl, by omega, ?_⟩
    walk_at "rd"
    refine y_asked (.str z (by omega)) (by assumption) ?_ rfl rfl fun H5 e5 => ?_
    · unfold nameB
      rw [h]
      rfl
    walk_at "rd"
    refine x_ite (fun h => absurd h (by simp)) (fun _ => ?_)
    walk_at "rd"
    exact law_7 q (by walk_at "sq") h1
theorem law_1 {a : Addr} {ns : List Int} {v1 v5 v6 v7 v8 v9 : Option V} {z : Str} {k : Int} {c : Nat} (q : ∀ H' : Hp, Q (.bl true) H') (ha : SqL K H a (I_ ns)) (h1 : z.length ≤ 60) :
    t_law_j1 P w K { nx := t_law_j8 P w K (DD Q), rt := Q } [some (.ref a), v1, some (.str z), some (.int k), some (.str ⟨#[c]⟩), v5, v6, v7, v8, v9] H := by
  have c1 : ∀ lo hi, (cutS z lo hi).length ≤ 60 := fun _ _ => cut_le h1
  unfold t_law_j1
  walk_at "rd"
  refine x_slS (by rw [sizeLine_eq]; omega) ?_
  walk_at "rd"
  have c2 := c1 none (some k)
  refine x_cat (by rw [sizeLine_eq, len1]; omega) ?_
  walk_at "rd"
  refine x_slS (by rw [sizeLine_eq]; omega) ?_
  have c3 := c1 (some (k + 1)) none
  refine x_cat (by rw [sizeLine_eq, Str.length_append, len1]; omega) ?_
  walk_at "rd"
  exact law_8 q ha (by rw [Str.length_append, Str.length_append, len1]; omega)
theorem rd_law (h : sp_law P w K vs H Q E) : t_law P w K { nx := fun _ H' => Q .non H', rt := Q } (start ["_law_script", "_law_size", "_law_made", "_law_at", "_law_sign", "_law_number", "_law_thing", "_law_name", "_law_head", "_law_found"] vs) H := by
  obtain ⟨a, ns, rfl, ha, hn, q⟩ := h
  unfold t_law
  walk_at "rc"
  refine ⟨_, _, rfl, by omega, by omega, fun z hz hs => ?_⟩
  have l1 : z.length ≤ 60 := by omega
  walk_at "rc"
  refine x_ite (fun hc => ?_) (fun _ => ?_)
  · have hp : 0 < ns.getD (Int.toNat 0) 0 % 15 := of_decide_eq_true hc
    walk_at "rc"
    refine x_ite (fun _ => ?_) (fun _ => ?_)
    · walk_at "rc"
      refine ⟨_, rfl, fun c => ?_⟩
      walk_at "rc"
      refine x_ite (fun _ => ?_) (fun _ => ?_)
      · walk_at "rc"
        refine y_ixS (by decide) (Int.emod_nonneg _ (by decide)) (Int.emod_lt_of_pos _ (by decide)) fun c2 _ => ?_
        walk_at "rc"
        exact law_1 q ha l1
      · walk_at "rc"
        exact law_1 q ha l1
    · walk_at "rc"
      exact law_8 q ha (by omega)
  · refine x_ite (fun h => absurd h (by simp)) (fun _ => ?_)
    walk_at "rc"
    exact law_8 q ha (by omega)
end
end Kr
namespace Kr
open PySem PySem.Spec PyProof.Rows L2
/-! ### the text by places -/
def top (i : Nat) : Stmt := PySem.Challenge.pw_keptrow_k02_names_and_values.main.body.getD i (.Pass ⟨0, 0, 0, 0⟩)
abbrev s_is_head : Stmt := top 3
abbrev s_is_name : Stmt := top 4
abbrev s_is_whole : Stmt := top 5
abbrev s_is_value : Stmt := top 6
abbrev s_is_under : Stmt := top 7
abbrev s_l_cell_at : Stmt := top 9
abbrev s_l_mixed : Stmt := top 10
abbrev s_l_text_by : Stmt := top 11
abbrev s_l_sign_by : Stmt := top 12
abbrev s_l_good : Stmt := top 13
abbrev s_l_asked : Stmt := top 14
abbrev s_law : Stmt := top 15
/-! ### what the head is asked -/
def d_is_head : He.DefD := ⟨("is_head", none), "is_head", "is_head", defArgs s_is_head, defBody s_is_head, defScope s_is_head, [], []⟩
def d_is_name : He.DefD := ⟨("is_name", none), "is_name", "is_name", defArgs s_is_name, defBody s_is_name, defScope s_is_name, [], []⟩
def d_is_whole : He.DefD := ⟨("is_whole", none), "is_whole", "is_whole", defArgs s_is_whole, defBody s_is_whole, defScope s_is_whole, [], []⟩
def d_is_value : He.DefD := ⟨("is_value", none), "is_value", "is_value", defArgs s_is_value, defBody s_is_value, defScope s_is_value, [], []⟩
def d_is_under : He.DefD := ⟨("is_under", none), "is_under", "is_under", defArgs s_is_under, defBody s_is_under, defScope s_is_under, [], []⟩
def d_l_cell_at : He.DefD := ⟨("_law_cell_at", none), "_law_cell_at", "_law_cell_at", defArgs s_l_cell_at, defBody s_l_cell_at, defScope s_l_cell_at, [], []⟩
def d_l_mixed : He.DefD := ⟨("_law_mixed", none), "_law_mixed", "_law_mixed", defArgs s_l_mixed, defBody s_l_mixed, defScope s_l_mixed, [], []⟩
def d_l_text_by : He.DefD := ⟨("_law_text_by", none), "_law_text_by", "_law_text_by", defArgs s_l_text_by, defBody s_l_text_by, defScope s_l_text_by, [], []⟩
def d_l_sign_by : He.DefD := ⟨("_law_sign_by", none), "_law_sign_by", "_law_sign_by", defArgs s_l_sign_by, defBody s_l_sign_by, defScope s_l_sign_by, [], []⟩
def d_l_good : He.DefD := ⟨("_law_good", none), "_law_good", "_law_good", defArgs s_l_good, defBody s_l_good, defScope s_l_good, [], []⟩
def d_l_asked : He.DefD := ⟨("_law_asked", none), "_law_asked", "_law_asked", defArgs s_l_asked, defBody s_l_asked, defScope s_l_asked, [], []⟩
def d_law : He.DefD := ⟨("law", none), "law", "law", defArgs s_law, defBody s_law, defScope s_law, [], []⟩
def fn0 : List He.DefD := [d_is_head, d_is_name, d_is_whole, d_is_value, d_is_under, d_l_cell_at, d_l_mixed, d_l_text_by, d_l_sign_by, d_l_good, d_l_asked, d_law]
def fn : List He.DefD := fn0
abbrev fa0 : List He.Fa := [.str "SIGNS" "abcdefghijklmnopqrstuvwxyz0123456789.", .int "MOST" 12, .glo "is_head", .glo "is_name", .glo "is_whole", .glo "is_value", .glo "is_under", .glo "_law_cell_at", .glo "_law_mixed", .glo "_law_text_by", .glo "_law_sign_by", .glo "_law_good"]
abbrev fa1 : List He.Fa := [.glo "_law_asked", .glo "law", .free "bool", .free "int", .free "isinstance", .free "len", .free "range", .free "str"]
abbrev fa : List He.Fa := fa0 ++ (fa1)
def loose0 : List PySem.Str := ["SIGNS", "MOST", "is_head", "is_name", "is_whole", "is_value", "is_under", "_law_cell_at", "_law_mixed", "_law_text_by", "_law_sign_by", "_law_good"]
def loose1 : List PySem.Str := ["_law_asked"]
def loose : List PySem.Str := loose0 ++ (loose1)
/-! ### what is known of the top, for the walks -/
structure Txt (K : PySem.W.Frag) (mg : Str → Option Value) : Prop where
  c : He.SaysD fa fn K
  g : ∃ h : Heap, K.In h ∧ h.Ns mainGlobals mg
def OkD (P : Program) (w : World) (K : PySem.W.Frag) (mg : Str → Option Value) (base : Heap) (CX : CXT) (k : Nat) (p : Str × Option Str) (ps : List Str) (sp : Sp) : Prop :=
  ∃ fd, FnOk P w K mg base CX k (He.fAd K p) fd ps sp ∧ Binds K fd ps [] ∧ PySem.W.keepIn K (.ref (He.fAd K p)) = true
section
variable {K : PySem.W.Frag} {mg : Str → Option Value}
theorem Txt.n_SIGNS (T : Txt K mg) : ∃ t, mg "SIGNS" = some (.str "abcdefghijklmnopqrstuvwxyz0123456789." t) := let ⟨_, X, G⟩ := T.g; He.str_ok X G (T.c.fact 0 (f := .str "SIGNS" "abcdefghijklmnopqrstuvwxyz0123456789.") rfl)
theorem Txt.n_MOST (T : Txt K mg) : ∃ t, mg "MOST" = some (.int 12 t) := let ⟨_, X, G⟩ := T.g; He.int_ok X G (T.c.fact 1 (f := .int "MOST" 12) rfl)
theorem Txt.g_is_head (T : Txt K mg) : mg "is_head" = some (.ref (He.ga K "is_head")) := let ⟨_, X, G⟩ := T.g; He.glo_ok X G (T.c.fact 2 (f := .glo "is_head") rfl)
theorem Txt.g_is_name (T : Txt K mg) : mg "is_name" = some (.ref (He.ga K "is_name")) := let ⟨_, X, G⟩ := T.g; He.glo_ok X G (T.c.fact 3 (f := .glo "is_name") rfl)
theorem Txt.g_is_whole (T : Txt K mg) : mg "is_whole" = some (.ref (He.ga K "is_whole")) := let ⟨_, X, G⟩ := T.g; He.glo_ok X G (T.c.fact 4 (f := .glo "is_whole") rfl)
theorem Txt.g_is_value (T : Txt K mg) : mg "is_value" = some (.ref (He.ga K "is_value")) := let ⟨_, X, G⟩ := T.g; He.glo_ok X G (T.c.fact 5 (f := .glo "is_value") rfl)
theorem Txt.g_is_under (T : Txt K mg) : mg "is_under" = some (.ref (He.ga K "is_under")) := let ⟨_, X, G⟩ := T.g; He.glo_ok X G (T.c.fact 6 (f := .glo "is_under") rfl)
theorem Txt.g__law_cell_at (T : Txt K mg) : mg "_law_cell_at" = some (.ref (He.ga K "_law_cell_at")) := let ⟨_, X, G⟩ := T.g; He.glo_ok X G (T.c.fact 7 (f := .glo "_law_cell_at") rfl)
theorem Txt.g__law_mixed (T : Txt K mg) : mg "_law_mixed" = some (.ref (He.ga K "_law_mixed")) := let ⟨_, X, G⟩ := T.g; He.glo_ok X G (T.c.fact 8 (f := .glo "_law_mixed") rfl)
theorem Txt.g__law_text_by (T : Txt K mg) : mg "_law_text_by" = some (.ref (He.ga K "_law_text_by")) := let ⟨_, X, G⟩ := T.g; He.glo_ok X G (T.c.fact 9 (f := .glo "_law_text_by") rfl)
theorem Txt.g__law_sign_by (T : Txt K mg) : mg "_law_sign_by" = some (.ref (He.ga K "_law_sign_by")) := let ⟨_, X, G⟩ := T.g; He.glo_ok X G (T.c.fact 10 (f := .glo "_law_sign_by") rfl)
theorem Txt.g__law_good (T : Txt K mg) : mg "_law_good" = some (.ref (He.ga K "_law_good")) := let ⟨_, X, G⟩ := T.g; He.glo_ok X G (T.c.fact 11 (f := .glo "_law_good") rfl)
theorem Txt.g__law_asked (T : Txt K mg) : mg "_law_asked" = some (.ref (He.ga K "_law_asked")) := let ⟨_, X, G⟩ := T.g; He.glo_ok X G (T.c.fact 12 (f := .glo "_law_asked") rfl)
theorem Txt.g_law (T : Txt K mg) : mg "law" = some (.ref (He.ga K "law")) := let ⟨_, X, G⟩ := T.g; He.glo_ok X G (T.c.fact 13 (f := .glo "law") rfl)
theorem Txt.b_bool (T : Txt K mg) : mg "bool" = none := let ⟨_, X, G⟩ := T.g; He.free_ok X G (T.c.fact 14 (f := .free "bool") rfl)
theorem Txt.b_int (T : Txt K mg) : mg "int" = none := let ⟨_, X, G⟩ := T.g; He.free_ok X G (T.c.fact 15 (f := .free "int") rfl)
theorem Txt.b_isinstance (T : Txt K mg) : mg "isinstance" = none := let ⟨_, X, G⟩ := T.g; He.free_ok X G (T.c.fact 16 (f := .free "isinstance") rfl)
theorem Txt.b_len (T : Txt K mg) : mg "len" = none := let ⟨_, X, G⟩ := T.g; He.free_ok X G (T.c.fact 17 (f := .free "len") rfl)
theorem Txt.b_range (T : Txt K mg) : mg "range" = none := let ⟨_, X, G⟩ := T.g; He.free_ok X G (T.c.fact 18 (f := .free "range") rfl)
theorem Txt.b_str (T : Txt K mg) : mg "str" = none := let ⟨_, X, G⟩ := T.g; He.free_ok X G (T.c.fact 19 (f := .free "str") rfl)
theorem Txt.f_is_head (T : Txt K mg) : ∃ fd, FunD K "is_head" "is_head" (defArgs s_is_head) (defBody s_is_head) (defScope s_is_head) [] [] (He.fAd K ("is_head", none)) fd := T.c.def_ 0 (d := d_is_head) rfl
theorem sc_is_head : FnScope ["thing", "sign"] ["thing"] (defScope s_is_head) := ⟨rfl, rfl, rfl, by decide +kernel, rfl, by decide +kernel, by decide +kernel⟩
theorem Txt.f_is_name (T : Txt K mg) : ∃ fd, FunD K "is_name" "is_name" (defArgs s_is_name) (defBody s_is_name) (defScope s_is_name) [] [] (He.fAd K ("is_name", none)) fd := T.c.def_ 1 (d := d_is_name) rfl
theorem sc_is_name : FnScope ["thing"] ["thing"] (defScope s_is_name) := ⟨rfl, rfl, rfl, by decide +kernel, rfl, by decide +kernel, by decide +kernel⟩
theorem Txt.f_is_whole (T : Txt K mg) : ∃ fd, FunD K "is_whole" "is_whole" (defArgs s_is_whole) (defBody s_is_whole) (defScope s_is_whole) [] [] (He.fAd K ("is_whole", none)) fd := T.c.def_ 2 (d := d_is_whole) rfl
theorem sc_is_whole : FnScope ["thing"] ["thing"] (defScope s_is_whole) := ⟨rfl, rfl, rfl, by decide +kernel, rfl, by decide +kernel, by decide +kernel⟩
theorem Txt.f_is_value (T : Txt K mg) : ∃ fd, FunD K "is_value" "is_value" (defArgs s_is_value) (defBody s_is_value) (defScope s_is_value) [] [] (He.fAd K ("is_value", none)) fd := T.c.def_ 3 (d := d_is_value) rfl
theorem sc_is_value : FnScope ["thing"] ["thing"] (defScope s_is_value) := ⟨rfl, rfl, rfl, by decide +kernel, rfl, by decide +kernel, by decide +kernel⟩
theorem Txt.f_is_under (T : Txt K mg) : ∃ fd, FunD K "is_under" "is_under" (defArgs s_is_under) (defBody s_is_under) (defScope s_is_under) [] [] (He.fAd K ("is_under", none)) fd := T.c.def_ 4 (d := d_is_under) rfl
theorem sc_is_under : FnScope ["name", "head"] ["name", "head"] (defScope s_is_under) := ⟨rfl, rfl, rfl, by decide +kernel, rfl, by decide +kernel, by decide +kernel⟩
theorem Txt.f_l_cell_at (T : Txt K mg) : ∃ fd, FunD K "_law_cell_at" "_law_cell_at" (defArgs s_l_cell_at) (defBody s_l_cell_at) (defScope s_l_cell_at) [] [] (He.fAd K ("_law_cell_at", none)) fd := T.c.def_ 5 (d := d_l_cell_at) rfl
theorem sc_l_cell_at : FnScope ["_law_script", "_law_k"] ["_law_script", "_law_k"] (defScope s_l_cell_at) := ⟨rfl, rfl, rfl, by decide +kernel, rfl, by decide +kernel, by decide +kernel⟩
theorem Txt.f_l_mixed (T : Txt K mg) : ∃ fd, FunD K "_law_mixed" "_law_mixed" (defArgs s_l_mixed) (defBody s_l_mixed) (defScope s_l_mixed) [] [] (He.fAd K ("_law_mixed", none)) fd := T.c.def_ 6 (d := d_l_mixed) rfl
theorem sc_l_mixed : FnScope ["_law_number"] ["_law_number"] (defScope s_l_mixed) := ⟨rfl, rfl, rfl, by decide +kernel, rfl, by decide +kernel, by decide +kernel⟩
theorem Txt.f_l_text_by (T : Txt K mg) : ∃ fd, FunD K "_law_text_by" "_law_text_by" (defArgs s_l_text_by) (defBody s_l_text_by) (defScope s_l_text_by) [] [] (He.fAd K ("_law_text_by", none)) fd := T.c.def_ 7 (d := d_l_text_by) rfl
theorem sc_l_text_by : FnScope ["_law_cell", "_law_size", "_law_some", "_law_made", "_law_number", "_law_k"] ["_law_cell", "_law_size"] (defScope s_l_text_by) := ⟨rfl, rfl, rfl, by decide +kernel, rfl, by decide +kernel, by decide +kernel⟩
theorem Txt.f_l_sign_by (T : Txt K mg) : ∃ fd, FunD K "_law_sign_by" "_law_sign_by" (defArgs s_l_sign_by) (defBody s_l_sign_by) (defScope s_l_sign_by) [] [] (He.fAd K ("_law_sign_by", none)) fd := T.c.def_ 8 (d := d_l_sign_by) rfl
theorem sc_l_sign_by : FnScope ["_law_cell", "_law_some"] ["_law_cell"] (defScope s_l_sign_by) := ⟨rfl, rfl, rfl, by decide +kernel, rfl, by decide +kernel, by decide +kernel⟩
theorem Txt.f_l_good (T : Txt K mg) : ∃ fd, FunD K "_law_good" "_law_good" (defArgs s_l_good) (defBody s_l_good) (defScope s_l_good) [] [] (He.fAd K ("_law_good", none)) fd := T.c.def_ 9 (d := d_l_good) rfl
theorem sc_l_good : FnScope ["_law_made", "_law_sign"] ["_law_made"] (defScope s_l_good) := ⟨rfl, rfl, rfl, by decide +kernel, rfl, by decide +kernel, by decide +kernel⟩
theorem Txt.f_l_asked (T : Txt K mg) : ∃ fd, FunD K "_law_asked" "_law_asked" (defArgs s_l_asked) (defBody s_l_asked) (defScope s_l_asked) [] [] (He.fAd K ("_law_asked", none)) fd := T.c.def_ 10 (d := d_l_asked) rfl
theorem sc_l_asked : FnScope ["_law_thing", "_law_due", "_law_told", "_law_answer"] ["_law_thing", "_law_due"] (defScope s_l_asked) := ⟨rfl, rfl, rfl, by decide +kernel, rfl, by decide +kernel, by decide +kernel⟩
theorem Txt.f_law (T : Txt K mg) : ∃ fd, FunD K "law" "law" (defArgs s_law) (defBody s_law) (defScope s_law) [] [] (He.fAd K ("law", none)) fd := T.c.def_ 11 (d := d_law) rfl
theorem sc_law : FnScope ["_law_script", "_law_size", "_law_made", "_law_at", "_law_sign", "_law_number", "_law_thing", "_law_name", "_law_head", "_law_found"] ["_law_script"] (defScope s_law) := ⟨rfl, rfl, rfl, by decide +kernel, rfl, by decide +kernel, by decide +kernel⟩
end
end Kr
namespace Kr
open PySem PySem.Spec L2
section
open PyProof.Rows
theorem ok_is_head {P : Program} {w : World} {K : PySem.W.Frag} {mg : Str → Option Value} {base : Heap} (T : Txt K mg) : OkD P w K mg base CX0 1 ("is_head", none) ["thing"] (sp_is_head P w K) := by
  obtain ⟨fd, F⟩ := T.f_is_head
  obtain ⟨_, n_MOST⟩ := T.n_MOST
  obtain ⟨_, n_SIGNS⟩ := T.n_SIGNS
  refine ⟨fd, F.ok sc_is_head (fun vs H Q E h => len_is_head h) (fun cdv A outer s H vs Q E hr h => ?_), F.bindsN fun _ _ _ _ _ _ us hl => match us, hl with | [_], _ => rfl, F.kp⟩
  refine ⟨t_is_head P w K, ?_, rd_is_head h⟩
  exact PSs.nox (pss_cons (ps_if (PW.pt (pw_or (pt_not (pt_val (pe_callB call_isi (by rfl) T.b_isinstance (by decide +kernel) (pa_cons (pv 0) (pa_cons (pe_bltn (by rfl) T.b_str (by decide +kernel) rfl) pa_nil))))) (pw_or1 (pt_cmpR o_gt (pe_callB k_lenS (by rfl) T.b_len PySem.boot_len (pa_cons (pv 0) pa_nil)) (pe_glob (by rfl) n_MOST ⟨_, rfl⟩) (nomark _))))) (pss_one (ps_ret pe_bl)) pss_nil)
  (pss_cons (ps_for PassesOwn.never rfl (pi_str (pv 0)) (pg_name (i := 1) sc_is_head.nd rfl (Or.inl rfl)) (pss_one (ps_if (pt_cmpR o_niC (pv 1) (pe_glob (by rfl) n_SIGNS ⟨_, rfl⟩) (by rfl)) (pss_one (ps_ret pe_bl)) pss_nil)))
  (pss_one (ps_ret pe_bl))))

theorem ok_is_name {P : Program} {w : World} {K : PySem.W.Frag} {mg : Str → Option Value} {base : Heap} (T : Txt K mg) : OkD P w K mg base CX0 2 ("is_name", none) ["thing"] (sp_is_name P w K) := by
  obtain ⟨fd, F⟩ := T.f_is_name
  obtain ⟨fd_is_head, G_is_head, b_is_head, kp_is_head⟩ := ok_is_head (P := P) (w := w) (base := base) T
  refine ⟨fd, F.ok sc_is_name (fun vs H Q E h => len_is_name h) (fun cdv A outer s H vs Q E hr h => ?_), F.bindsN fun _ _ _ _ _ _ us hl => match us, hl with | [_], _ => rfl, F.kp⟩
  refine ⟨t_is_name P w K, ?_, rd_is_name h⟩
  exact PSs.nox (pss_one (ps_ret (pe_and (pe_call G_is_head hr (by rfl) T.g_is_head kp_is_head b_is_head .nil pass0 (pa_cons (pv 0) pa_nil)) (pe_one (pe_cmpR op_ne (pv 0) pe_str (nomark _))))))

theorem ok_is_whole {P : Program} {w : World} {K : PySem.W.Frag} {mg : Str → Option Value} {base : Heap} (T : Txt K mg) : OkD P w K mg base CX0 1 ("is_whole", none) ["thing"] (sp_is_whole P w K) := by
  obtain ⟨fd, F⟩ := T.f_is_whole
  refine ⟨fd, F.ok sc_is_whole (fun vs H Q E h => len_is_whole h) (fun cdv A outer s H vs Q E hr h => ?_), F.bindsN fun _ _ _ _ _ _ us hl => match us, hl with | [_], _ => rfl, F.kp⟩
  refine ⟨t_is_whole P w K, ?_, rd_is_whole h⟩
  exact PSs.nox (pss_one (ps_ret (pe_and (pe_callB call_isi (by rfl) T.b_isinstance (by decide +kernel) (pa_cons (pv 0) (pa_cons (pe_bltn (by rfl) T.b_int (by decide +kernel) rfl) pa_nil))) (pe_one (pe_not (pe_callB call_isi (by rfl) T.b_isinstance (by decide +kernel) (pa_cons (pv 0) (pa_cons (pe_bltn (by rfl) T.b_bool (by decide +kernel) rfl) pa_nil))))))))

theorem ok_is_value {P : Program} {w : World} {K : PySem.W.Frag} {mg : Str → Option Value} {base : Heap} (T : Txt K mg) : OkD P w K mg base CX0 2 ("is_value", none) ["thing"] (sp_is_value P w K) := by
  obtain ⟨fd, F⟩ := T.f_is_value
  obtain ⟨fd_is_whole, G_is_whole, b_is_whole, kp_is_whole⟩ := ok_is_whole (P := P) (w := w) (base := base) T
  refine ⟨fd, F.ok sc_is_value (fun vs H Q E h => len_is_value h) (fun cdv A outer s H vs Q E hr h => ?_), F.bindsN fun _ _ _ _ _ _ us hl => match us, hl with | [_], _ => rfl, F.kp⟩
  refine ⟨t_is_value P w K, ?_, rd_is_value h⟩
  exact PSs.nox (pss_cons (ps_if (pt_cmpR o_isN (pv 0) pe_non (nomark _)) (pss_one (ps_ret pe_bl)) pss_nil)
  (pss_one (ps_ret (pe_and (pe_call G_is_whole hr (by rfl) T.g_is_whole kp_is_whole b_is_whole .nil pass0 (pa_cons (pv 0) pa_nil)) (pe_one (pe_chain o_le o_le (pe_un o_neg (pe_op o_pow pe_int pe_int)) (pv 0) (pe_op o_pow pe_int pe_int)))))))

theorem ok_is_under {P : Program} {w : World} {K : PySem.W.Frag} {mg : Str → Option Value} {base : Heap} (T : Txt K mg) : OkD P w K mg base CX0 1 ("is_under", none) ["name", "head"] (sp_is_under P w K) := by
  obtain ⟨fd, F⟩ := T.f_is_under
  refine ⟨fd, F.ok sc_is_under (fun vs H Q E h => len_is_under h) (fun cdv A outer s H vs Q E hr h => ?_), F.bindsN fun _ _ _ _ _ _ us hl => match us, hl with | [_, _], _ => rfl, F.kp⟩
  refine ⟨t_is_under P w K, ?_, rd_is_under h⟩
  exact PSs.nox (pss_one (ps_ret (pe_cmpR op_eq (pe_slice sl_str (pv 0) po_none (po_some (pe_callB k_lenS (by rfl) T.b_len PySem.boot_len (pa_cons (pv 1) pa_nil)))) (pv 1) (nomark _))))

theorem ok_l_cell_at {P : Program} {w : World} {K : PySem.W.Frag} {mg : Str → Option Value} {base : Heap} (T : Txt K mg) : OkD P w K mg base CX0 1 ("_law_cell_at", none) ["_law_script", "_law_k"] (sp_l_cell_at P w K) := by
  obtain ⟨fd, F⟩ := T.f_l_cell_at
  refine ⟨fd, F.ok sc_l_cell_at (fun vs H Q E h => len_l_cell_at h) (fun cdv A outer s H vs Q E hr h => ?_), F.bindsN fun _ _ _ _ _ _ us hl => match us, hl with | [_, _], _ => rfl, F.kp⟩
  refine ⟨t_l_cell_at P w K, ?_, rd_l_cell_at h⟩
  exact PSs.nox (pss_cons (ps_if (pt_cmpR o_lt (pv 1) (pe_callB k_len (by rfl) T.b_len PySem.boot_len (pa_cons (pv 0) pa_nil)) (nomark _)) (pss_one (ps_ret (pe_ix ix_list (pv 0) (pv 1) (fun _ _ => rfl)))) pss_nil)
  (pss_one (ps_ret pe_int)))

theorem ok_l_mixed {P : Program} {w : World} {K : PySem.W.Frag} {mg : Str → Option Value} {base : Heap} (T : Txt K mg) : OkD P w K mg base CX0 1 ("_law_mixed", none) ["_law_number"] (sp_l_mixed P w K) := by
  obtain ⟨fd, F⟩ := T.f_l_mixed
  refine ⟨fd, F.ok sc_l_mixed (fun vs H Q E h => len_l_mixed h) (fun cdv A outer s H vs Q E hr h => ?_), F.bindsN fun _ _ _ _ _ _ us hl => match us, hl with | [_], _ => rfl, F.kp⟩
  refine ⟨t_l_mixed P w K, ?_, rd_l_mixed h⟩
  exact PSs.nox (pss_one (ps_ret (pe_op o_mod (pe_op o_add (pe_op o_mul (pv 0) pe_int) pe_int) pe_int)))

theorem ok_l_text_by {P : Program} {w : World} {K : PySem.W.Frag} {mg : Str → Option Value} {base : Heap} (T : Txt K mg) : OkD P w K mg base CX0 2 ("_law_text_by", none) ["_law_cell", "_law_size"] (sp_l_text_by P w K) := by
  obtain ⟨fd, F⟩ := T.f_l_text_by
  obtain ⟨fd_l_mixed, G_l_mixed, b_l_mixed, kp_l_mixed⟩ := ok_l_mixed (P := P) (w := w) (base := base) T
  refine ⟨fd, F.ok sc_l_text_by (fun vs H Q E h => len_l_text_by h) (fun cdv A outer s H vs Q E hr h => ?_), F.bindsN fun _ _ _ _ _ _ us hl => match us, hl with | [_, _], _ => rfl, F.kp⟩
  refine ⟨t_l_text_by P w K, ?_, rd_l_text_by h⟩
  exact PSs.nox (pss_cons (ps_set (i := 2) sc_l_text_by.nd rfl (Or.inl rfl) pe_str)
  (pss_cons (ps_set (i := 3) sc_l_text_by.nd rfl (Or.inl rfl) pe_str)
  (pss_cons (ps_set (i := 4) sc_l_text_by.nd rfl (Or.inl rfl) (pv 0))
  (pss_cons (ps_for PassesOwn.never rfl (pi_range1 rfl T.b_range (pa_cons (pv 1) pa_nil)) (pg_name (i := 5) sc_l_text_by.nd rfl (Or.inl rfl)) (pss_cons (ps_set (i := 4) sc_l_text_by.nd rfl (Or.inl rfl) (pe_call G_l_mixed hr (by rfl) T.g__law_mixed kp_l_mixed b_l_mixed .nil pass0 (pa_cons (pv 4) pa_nil)))
  (pss_one (ps_set (i := 3) sc_l_text_by.nd rfl (Or.inl rfl) (pe_op o_cat (pv 3) (pe_ix ix_str (pv 2) (pe_op o_mod (pv 4) pe_int) (fun _ _ => rfl)))))))
  (pss_one (ps_ret (pv 3)))))))

theorem ok_l_sign_by {P : Program} {w : World} {K : PySem.W.Frag} {mg : Str → Option Value} {base : Heap} (T : Txt K mg) : OkD P w K mg base CX0 1 ("_law_sign_by", none) ["_law_cell"] (sp_l_sign_by P w K) := by
  obtain ⟨fd, F⟩ := T.f_l_sign_by
  refine ⟨fd, F.ok sc_l_sign_by (fun vs H Q E h => len_l_sign_by h) (fun cdv A outer s H vs Q E hr h => ?_), F.bindsN fun _ _ _ _ _ _ us hl => match us, hl with | [_], _ => rfl, F.kp⟩
  refine ⟨t_l_sign_by P w K, ?_, rd_l_sign_by h⟩
  exact PSs.nox (pss_cons (ps_set (i := 1) sc_l_sign_by.nd rfl (Or.inl rfl) pe_str)
  (pss_cons (ps_set (i := 1) sc_l_sign_by.nd rfl (Or.inl rfl) (pe_op o_cat (pv 1) pe_str))
  (pss_one (ps_ret (pe_ix ix_str (pv 1) (pe_op o_mod (pv 0) pe_int) (fun _ _ => rfl))))))

theorem ok_l_good {P : Program} {w : World} {K : PySem.W.Frag} {mg : Str → Option Value} {base : Heap} (T : Txt K mg) : OkD P w K mg base CX0 1 ("_law_good", none) ["_law_made"] (sp_l_good P w K) := by
  obtain ⟨fd, F⟩ := T.f_l_good
  refine ⟨fd, F.ok sc_l_good (fun vs H Q E h => len_l_good h) (fun cdv A outer s H vs Q E hr h => ?_), F.bindsN fun _ _ _ _ _ _ us hl => match us, hl with | [_], _ => rfl, F.kp⟩
  refine ⟨t_l_good P w K, ?_, rd_l_good h⟩
  exact PSs.nox (pss_cons (ps_for PassesOwn.never rfl (pi_str (pv 0)) (pg_name (i := 1) sc_l_good.nd rfl (Or.inl rfl)) (pss_one (ps_if (pt_cmpR o_niC (pv 1) pe_str (by rfl)) (pss_one (ps_ret pe_bl)) pss_nil)))
  (pss_one (ps_ret (pe_cmpR o_le (pe_callB k_lenS (by rfl) T.b_len PySem.boot_len (pa_cons (pv 0) pa_nil)) pe_int (nomark _)))))

theorem ok_l_asked {P : Program} {w : World} {K : PySem.W.Frag} {mg : Str → Option Value} {base : Heap} (T : Txt K mg) : OkD P w K mg base CX0 3 ("_law_asked", none) ["_law_thing", "_law_due"] (sp_l_asked P w K) := by
  obtain ⟨fd, F⟩ := T.f_l_asked
  obtain ⟨fd_is_value, G_is_value, b_is_value, kp_is_value⟩ := ok_is_value (P := P) (w := w) (base := base) T
  obtain ⟨fd_is_head, G_is_head, b_is_head, kp_is_head⟩ := ok_is_head (P := P) (w := w) (base := base) T
  obtain ⟨fd_is_name, G_is_name, b_is_name, kp_is_name⟩ := ok_is_name (P := P) (w := w) (base := base) T
  refine ⟨fd, F.ok sc_l_asked (fun vs H Q E h => len_l_asked h) (fun cdv A outer s H vs Q E hr h => ?_), F.bindsN fun _ _ _ _ _ _ us hl => match us, hl with | [_, _], _ => rfl, F.kp⟩
  refine ⟨t_l_asked P w K, ?_, rd_l_asked h⟩
  exact PSs.nox (pss_cons (ps_set (i := 2) sc_l_asked.nd rfl (Or.inl rfl) (pe_lst (pa_cons (pe_call G_is_name hr (by rfl) T.g_is_name kp_is_name b_is_name .nil pass0 (pa_cons (pv 0) pa_nil)) (pa_cons (pe_call G_is_head (hr.mono (by decide)) (by rfl) T.g_is_head kp_is_head b_is_head .nil pass0 (pa_cons (pv 0) pa_nil)) (pa_cons (pe_call G_is_value hr (by rfl) T.g_is_value kp_is_value b_is_value .nil pass0 (pa_cons (pv 0) pa_nil)) pa_nil)))))
  (pss_cons (ps_for PassesOwn.never rfl (pi_list (pv 2)) (pg_name (i := 3) sc_l_asked.nd rfl (Or.inl rfl)) (pss_one (ps_if (pt_not (pt_val (pe_callB call_isi (by rfl) T.b_isinstance (by decide +kernel) (pa_cons (pv 3) (pa_cons (pe_bltn (by rfl) T.b_bool (by decide +kernel) rfl) pa_nil))))) (pss_one (ps_ret pe_bl)) pss_nil)))
  (pss_one (ps_ret (pe_cmpR (op_eqD hr.units) (pv 2) (pv 1) (nomark _))))))

theorem okF_law {P : Program} {w : World} {K : PySem.W.Frag} {mg : Str → Option Value} (T : Txt K mg) {fd : FuncData} (F : FunD K "law" "law" (defArgs s_law) (defBody s_law) (defScope s_law) [] [] (He.fAd K ("law", none)) fd) (base : Heap) : FnOk P w K mg base CX0 4 (He.fAd K ("law", none)) fd ["_law_script"] (sp_law P w K) := by
  obtain ⟨fd_l_cell_at, G_l_cell_at, b_l_cell_at, kp_l_cell_at⟩ := ok_l_cell_at (P := P) (w := w) (base := base) T
  obtain ⟨fd_l_text_by, G_l_text_by, b_l_text_by, kp_l_text_by⟩ := ok_l_text_by (P := P) (w := w) (base := base) T
  obtain ⟨fd_l_sign_by, G_l_sign_by, b_l_sign_by, kp_l_sign_by⟩ := ok_l_sign_by (P := P) (w := w) (base := base) T
  obtain ⟨fd_l_asked, G_l_asked, b_l_asked, kp_l_asked⟩ := ok_l_asked (P := P) (w := w) (base := base) T
  obtain ⟨fd_l_good, G_l_good, b_l_good, kp_l_good⟩ := ok_l_good (P := P) (w := w) (base := base) T
  obtain ⟨fd_is_under, G_is_under, b_is_under, kp_is_under⟩ := ok_is_under (P := P) (w := w) (base := base) T
  refine F.ok sc_law (fun vs H Q E h => len_law h) (fun cdv A outer s H vs Q E hr h => ?_)
  refine ⟨t_law P w K, ?_, rd_law h⟩
  exact PSs.nox (pss_cons (ps_set (i := 1) sc_law.nd rfl (Or.inl rfl) (pe_op o_mod (pe_call G_l_cell_at (hr.mono (by decide)) (by rfl) T.g__law_cell_at kp_l_cell_at b_l_cell_at .nil pass0 (pa_cons (pv 0) (pa_cons pe_int pa_nil))) pe_int))
  (pss_cons (ps_set (i := 2) sc_law.nd rfl (Or.inl rfl) (pe_call G_l_text_by (hr.mono (by decide)) (by rfl) T.g__law_text_by kp_l_text_by b_l_text_by .nil pass0 (pa_cons (pe_call G_l_cell_at (hr.mono (by decide)) (by rfl) T.g__law_cell_at kp_l_cell_at b_l_cell_at .nil pass0 (pa_cons (pv 0) (pa_cons pe_int pa_nil))) (pa_cons (pv 1) pa_nil))))
  (pss_cons (ps_if (PW.pt (pw_and (pt_cmpR o_gt (pv 1) pe_int (nomark _)) (pw_and1 (pt_cmpR op_eq (pe_op o_mod (pe_call G_l_cell_at (hr.mono (by decide)) (by rfl) T.g__law_cell_at kp_l_cell_at b_l_cell_at .nil pass0 (pa_cons (pv 0) (pa_cons pe_int pa_nil))) pe_int) pe_int (nomark _))))) (pss_cons (ps_set (i := 3) sc_law.nd rfl (Or.inl rfl) (pe_op o_mod (pe_op o_div (pe_call G_l_cell_at (hr.mono (by decide)) (by rfl) T.g__law_cell_at kp_l_cell_at b_l_cell_at .nil pass0 (pa_cons (pv 0) (pa_cons pe_int pa_nil))) pe_int) (pv 1)))
  (pss_cons (ps_set (i := 4) sc_law.nd rfl (Or.inl rfl) (pe_call G_l_sign_by (hr.mono (by decide)) (by rfl) T.g__law_sign_by kp_l_sign_by b_l_sign_by .nil pass0 (pa_cons (pe_call G_l_cell_at (hr.mono (by decide)) (by rfl) T.g__law_cell_at kp_l_cell_at b_l_cell_at .nil pass0 (pa_cons (pv 0) (pa_cons pe_int pa_nil))) pa_nil)))
  (pss_cons (ps_if (pt_cmpR op_eq (pe_op o_mod (pe_call G_l_cell_at (hr.mono (by decide)) (by rfl) T.g__law_cell_at kp_l_cell_at b_l_cell_at .nil pass0 (pa_cons (pv 0) (pa_cons pe_int pa_nil))) pe_int) pe_int (nomark _)) (pss_one (ps_set (i := 4) sc_law.nd rfl (Or.inl rfl) (pe_ix ix_str pe_str (pe_op o_mod (pe_op o_div (pe_call G_l_cell_at (hr.mono (by decide)) (by rfl) T.g__law_cell_at kp_l_cell_at b_l_cell_at .nil pass0 (pa_cons (pv 0) (pa_cons pe_int pa_nil))) pe_int) pe_int) (fun _ _ => rfl)))) pss_nil)
  (pss_one (ps_set (i := 2) sc_law.nd rfl (Or.inl rfl) (pe_op o_cat (pe_op o_cat (pe_slice sl_str (pv 2) po_none (po_some (pv 3))) (pv 4)) (pe_slice sl_str (pv 2) (po_some (pe_op o_add (pv 3) pe_int)) po_none))))))) pss_nil)
  (pss_cons (ps_if (pt_not (pt_val (pe_call G_l_asked hr (by rfl) T.g__law_asked kp_l_asked b_l_asked .nil pass0 (pa_cons (pv 2) (pa_cons (pe_lst (pa_cons (pe_and (pe_call G_l_good (hr.mono (by decide)) (by rfl) T.g__law_good kp_l_good b_l_good .nil pass0 (pa_cons (pv 2) pa_nil)) (pe_one (pe_cmpR op_ne (pv 2) pe_str (nomark _)))) (pa_cons (pe_call G_l_good (hr.mono (by decide)) (by rfl) T.g__law_good kp_l_good b_l_good .nil pass0 (pa_cons (pv 2) pa_nil)) (pa_cons pe_bl pa_nil)))) pa_nil))))) (pss_one (ps_ret pe_bl)) pss_nil)
  (pss_cons (ps_set (i := 5) sc_law.nd rfl (Or.inl rfl) (pe_call G_l_cell_at (hr.mono (by decide)) (by rfl) T.g__law_cell_at kp_l_cell_at b_l_cell_at .nil pass0 (pa_cons (pv 0) (pa_cons pe_int pa_nil))))
  (pss_cons (ps_if (pt_cmpR op_eq (pe_op o_mod (pv 5) pe_int) pe_int (nomark _)) (pss_one (ps_set (i := 5) sc_law.nd rfl (Or.inl rfl) (pe_op o_sub (pe_op o_add (pe_ix ix_list (pe_lst (pa_cons (pe_op o_pow pe_int pe_int) (pa_cons (pe_un o_neg (pe_op o_pow pe_int pe_int)) pa_nil))) (pe_op o_mod (pe_op o_div (pv 5) pe_int) pe_int) (fun _ _ => rfl)) (pe_op o_mod (pe_op o_div (pv 5) pe_int) pe_int)) pe_int))) pss_nil)
  (pss_cons (ps_if (pt_not (pt_val (pe_call G_l_asked hr (by rfl) T.g__law_asked kp_l_asked b_l_asked .nil pass0 (pa_cons (pv 5) (pa_cons (pe_lst (pa_cons pe_bl (pa_cons pe_bl (pa_cons (pe_and (pe_cmpR o_le (pe_un o_neg (pe_op o_pow pe_int pe_int)) (pv 5) (nomark _)) (pe_one (pe_cmpR o_le (pv 5) (pe_op o_pow pe_int pe_int) (nomark _)))) pa_nil)))) pa_nil))))) (pss_one (ps_ret pe_bl)) pss_nil)
  (pss_cons (ps_for PassesOwn.never rfl (pi_list (pe_lst (pa_cons pe_bl (pa_cons pe_bl (pa_cons (pe_lst (pa_cons (pv 2) pa_nil)) (pa_cons (pe_tup (pa_cons (pv 2) pa_nil)) pa_nil)))))) (pg_name (i := 6) sc_law.nd rfl (Or.inl rfl)) (pss_one (ps_if (pt_not (pt_val (pe_call G_l_asked hr (by rfl) T.g__law_asked kp_l_asked b_l_asked .nil pass0 (pa_cons (pv 6) (pa_cons (pe_lst (pa_cons pe_bl (pa_cons pe_bl (pa_cons pe_bl pa_nil)))) pa_nil))))) (pss_one (ps_ret pe_bl)) pss_nil)))
  (pss_cons (ps_if (pt_not (pt_val (pe_call G_l_asked hr (by rfl) T.g__law_asked kp_l_asked b_l_asked .nil pass0 (pa_cons pe_non (pa_cons (pe_lst (pa_cons pe_bl (pa_cons pe_bl (pa_cons pe_bl pa_nil)))) pa_nil))))) (pss_one (ps_ret pe_bl)) pss_nil)
  (pss_cons (ps_set (i := 7) sc_law.nd rfl (Or.inl rfl) (pe_call G_l_text_by (hr.mono (by decide)) (by rfl) T.g__law_text_by kp_l_text_by b_l_text_by .nil pass0 (pa_cons (pe_call G_l_cell_at (hr.mono (by decide)) (by rfl) T.g__law_cell_at kp_l_cell_at b_l_cell_at .nil pass0 (pa_cons (pv 0) (pa_cons pe_int pa_nil))) (pa_cons (pe_op o_add pe_int (pe_op o_mod (pe_call G_l_cell_at (hr.mono (by decide)) (by rfl) T.g__law_cell_at kp_l_cell_at b_l_cell_at .nil pass0 (pa_cons (pv 0) (pa_cons pe_int pa_nil))) pe_int)) pa_nil))))
  (pss_cons (ps_set (i := 8) sc_law.nd rfl (Or.inl rfl) (pe_slice sl_str (pv 7) po_none (po_some (pe_op o_mod (pe_call G_l_cell_at (hr.mono (by decide)) (by rfl) T.g__law_cell_at kp_l_cell_at b_l_cell_at .nil pass0 (pa_cons (pv 0) (pa_cons pe_int pa_nil))) (pe_op o_add (pe_callB k_lenS (by rfl) T.b_len PySem.boot_len (pa_cons (pv 7) pa_nil)) pe_int)))))
  (pss_cons (ps_if (pt_cmpR op_eq (pe_op o_mod (pe_call G_l_cell_at (hr.mono (by decide)) (by rfl) T.g__law_cell_at kp_l_cell_at b_l_cell_at .nil pass0 (pa_cons (pv 0) (pa_cons pe_int pa_nil))) pe_int) pe_int (nomark _)) (pss_one (ps_set (i := 8) sc_law.nd rfl (Or.inl rfl) (pe_call G_l_text_by (hr.mono (by decide)) (by rfl) T.g__law_text_by kp_l_text_by b_l_text_by .nil pass0 (pa_cons (pe_call G_l_cell_at (hr.mono (by decide)) (by rfl) T.g__law_cell_at kp_l_cell_at b_l_cell_at .nil pass0 (pa_cons (pv 0) (pa_cons pe_int pa_nil))) (pa_cons (pe_op o_mod (pe_call G_l_cell_at (hr.mono (by decide)) (by rfl) T.g__law_cell_at kp_l_cell_at b_l_cell_at .nil pass0 (pa_cons (pv 0) (pa_cons pe_int pa_nil))) pe_int) pa_nil))))) pss_nil)
  (pss_cons (ps_if (pt_cmpR op_eq (pe_op o_mod (pe_call G_l_cell_at (hr.mono (by decide)) (by rfl) T.g__law_cell_at kp_l_cell_at b_l_cell_at .nil pass0 (pa_cons (pv 0) (pa_cons pe_int pa_nil))) pe_int) pe_int (nomark _)) (pss_one (ps_set (i := 8) sc_law.nd rfl (Or.inl rfl) (pe_slice sl_str (pv 7) (po_some (pe_op o_mod (pe_call G_l_cell_at (hr.mono (by decide)) (by rfl) T.g__law_cell_at kp_l_cell_at b_l_cell_at .nil pass0 (pa_cons (pv 0) (pa_cons pe_int pa_nil))) (pe_callB k_lenS (by rfl) T.b_len PySem.boot_len (pa_cons (pv 7) pa_nil)))) po_none))) pss_nil)
  (pss_cons (ps_set (i := 9) sc_law.nd rfl (Or.inl rfl) (pe_call G_is_under (hr.mono (by decide)) (by rfl) T.g_is_under kp_is_under b_is_under .nil pass0 (pa_cons (pv 7) (pa_cons (pv 8) pa_nil))))
  (pss_one (ps_ret (pe_and (pe_callB call_isi (by rfl) T.b_isinstance (by decide +kernel) (pa_cons (pv 9) (pa_cons (pe_bltn (by rfl) T.b_bool (by decide +kernel) rfl) pa_nil))) (pe_one (pe_cmpR op_eq (pv 9) (pe_cmpR op_eq (pe_slice sl_str (pv 7) po_none (po_some (pe_callB k_lenS (by rfl) T.b_len PySem.boot_len (pa_cons (pv 8) pa_nil)))) (pv 8) (nomark _)) (nomark _))))))))))))))))))))
def lvl : Nat := 4
def spLaw (K : PySem.W.Frag) : Sp := fun vs H Q _ => ∃ (a : Addr) (ns : List Int), vs = [.ref a] ∧ SqL K H a (ns.map V.int) ∧ ns.length ≤ 63 ∧ ∀ H', Q (.bl true) H'
theorem fin {P : Program} {w : World} {K : PySem.W.Frag} {mg : Str → Option Value} {fa0 : Addr} {h : Heap} (KX : K.In h) (G : h.Ns mainGlobals mg) (hmg : mg "law" = some (.ref fa0)) (c : He.SaysD fa fn K) :
    ∃ fd, (∀ (s : Shared) (u : Value), BindsTo s fd ⟨[u], []⟩ [("_law_script", u)]) ∧ ∀ base : Heap, K.In base → base.Ns mainGlobals mg → FnOk P w K mg base CX0 lvl fa0 fd ["_law_script"] (spLaw K) := by
  have T : Txt K mg := ⟨c, h, KX, G⟩
  have e := hmg.symm.trans T.g_law
  cases e
  obtain ⟨fd, F⟩ := T.f_law
  exact ⟨fd, fun s u => F.bindsA (ps := ["_law_script"]) (fun _ _ _ _ _ _ us hl => match us, hl with | [_], _ => rfl) s [u] rfl, fun base _ _ => okF_law T F base⟩
end
end Kr
set_option maxHeartbeats 0
namespace Kr
open PySem PySem.Spec PyProof.Rows L2
/-! ### the head's run -/
abbrev R : PySem.W.OpenRow := PySem.W.OpenLaw.row PySem.Challenge.rw_keptrow_k02_names_and_values
abbrev hk : PySem.W.Hook := He.hookD 6 fa fn
def ob (s : PySem.W.SharedT) : He.AlD := He.obsDG 6 fa fn (HandSHeadRun.getT s)
theorem ob_eq (s : PySem.W.SharedT) : ob s = hk.obs s.abs := He.obsDG_eq (HandSHeadRun.getT_eq s)
theorem run (w : World) : HandSHeadRun.RunEq R (PySem.W.view R.prog [15]) hk ob 14000 loose w := by
  intro os
  kernel_rfl
end Kr
open PySem PySem.W PySem.Calls PyProof.Rows
theorem PySem.Challenge.cw_keptrow_k02_names_and_values_holds : PySem.Challenge.rw_keptrow_k02_names_and_values.Holds := by
  w_on; o_law
  refine HandSHeadRun.head_any (r := OpenLaw.row PySem.Challenge.rw_keptrow_k02_names_and_values) (q := view (OpenLaw.row PySem.Challenge.rw_keptrow_k02_names_and_values).prog [15]) (H := Kr.hk) (ob := Kr.ob) (M := 14000) (loose := Kr.loose) (d := HandSHeadRun.topDef (OpenLaw.row PySem.Challenge.rw_keptrow_k02_names_and_values).prog 15) (kwd := []) Kr.ob_eq
    (by kernel_rfl) (fun s => by kernel_rfl) Kr.run (by kernel_rfl) (by kernel_rfl) (by kernel_rfl) (by rfl) (by first | assumption | decide +kernel) (by decide +kernel) ⟨rfl, rfl, rfl, rfl, rfl, by decide +kernel⟩ ?hw ?hc
  case hw => w_witness2
  case hc =>
    refine L2.walk_ofE (l := PySem.Challenge.rw_keptrow_k02_names_and_values) (n := 63) (k := Kr.lvl) (x := "_law_script") (CX := L2.CX0) rfl (by decide) (by kernel_rfl) ⟨rfl, by decide, by decide⟩ ?F (fun _ _ _ _ z => z)
    intro w mg fa h Y G hmg0
    obtain ⟨K, KX, c⟩ := Y
    have hmg : mg ("law" : PySem.Str) = some (.ref fa) := by
      have e : (HandSHeadRun.topDef (OpenLaw.row PySem.Challenge.rw_keptrow_k02_names_and_values).prog 15).name = ("law" : PySem.Str) := by kernel_rfl
      rw [← e]
      exact hmg0
    obtain ⟨fd, hb, hF⟩ := Kr.fin (w := w) KX G hmg c
    exact ⟨K, fd, Kr.spLaw K, KX, hb, fun H a ns hl _ hS => ⟨a, ns, rfl, hS, hl, fun _ => rfl⟩, hF⟩

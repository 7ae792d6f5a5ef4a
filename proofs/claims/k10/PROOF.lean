import PyProof.Rows.All
import Wide.All
import OpenK.AllK
import Wide.FinOn
import HandS.CallRecv
import HandS.Codes
import HandS.EndTab
import HandS.ExcIs
import HandS.FStr
import HandS.ForMost
import HandS.IsInst
import HandS.Lambda
import HandS.Replace
import HandS.RevRange
import HandS.SortRule
import HandS.Style
import HandS.TryMany
import HandS.TupLe
import HandS.Walk
import HandS.WordsExc
import KE.KDflt
import KE.KNestM
import PySem.Challenge.RW_sharepack_k10_refused_bits
set_option Elab.async false
set_option linter.all false
set_option maxRecDepth 100000
set_option maxHeartbeats 4000000
/-! ## Rules over HandS -/
namespace Sp
open PySem PySem.Spec PyProof.Rows L2
/-! ### the rules again, their readings over K by name -/
section
variable {X : Cx} {K : PySem.W.Frag}
theorem ix_listK (hK : X.K = K := by rfl) : IxR X (rIxL K) := by subst hK; exact ix_list
theorem ix_tupK (hK : X.K = K := by rfl) : IxR X (rIxT K) := by subst hK; exact ix_tup
theorem op_inK (hK : X.K = K := by rfl) : OpR X (compareOp .In) (rIn K false) := by subst hK; exact op_in_seq
theorem op_notInK (hK : X.K = K := by rfl) : OpR X (compareOp .NotIn) (rIn K true) := by subst hK; exact op_notIn_seq
theorem op_eqDK (hu : X.A.units + 64 < cLine) (hK : X.K = K := by rfl) : OpR X (compareOp .Eq) (rEqD K) := by subst hK; exact op_eqD hu
theorem op_neDK (hu : X.A.units + 64 < cLine) (hK : X.K = K := by rfl) : OpR X (compareOp .NotEq) (rNeD K) := by subst hK; exact op_neD hu
theorem op_ltTK (hu : X.A.units < cLine) (hK : X.K = K := by rfl) : OpR X (compareOp .Lt) (rLtT K) := by subst hK; exact op_ltT hu
def rSeqLen (K : PySem.W.Frag) : List V → Hp → VK → Prop := fun xs H Q => ∃ p ys, xs = [.ref p] ∧ (SqL K H p ys ∨ SqT K H p ys) ∧ Q (.int ys.length) H
def rListOf (K : PySem.W.Frag) : List V → Hp → VK → Prop := fun xs H Q => ∃ p ys, xs = [.ref p] ∧ (SqL K H p ys ∨ SqT K H p ys) ∧ ∀ l, H l = none → Q (.ref l) (upd H l (.lst ys))
theorem call_lenK (hK : X.K = K := by rfl) : CallR X (.builtin "len") (rSeqLen K) := by subst hK; exact call_len_seq
theorem call_listK (hK : X.K = K := by rfl) : CallR X (.type "list") (rListOf K) := by subst hK; exact call_list_of
def rTupleOf (K : PySem.W.Frag) : List V → Hp → VK → Prop := fun xs H Q => ∃ p ys, xs = [.ref p] ∧ ((SqL K H p ys ∧ ∀ l, H l = none → Q (.ref l) (upd H l (.tup ys))) ∨ (SqT K H p ys ∧ Q (.ref p) H))
theorem call_tupleK (hK : X.K = K := by rfl) : CallR X (.type "tuple") (rTupleOf K) := by subst hK; exact call_tuple_of
theorem cr_sumK (hc : X.calm = true) (hK : X.K = K := by rfl) : CallR X (.builtin "sum") (rSum K) := by subst hK; exact cr_sum hc
theorem cr_maxK (hc : X.calm = true) (hK : X.K = K := by rfl) : CallR X (.builtin "max") (rMax K) := by subst hK; exact cr_max hc
theorem cr_minK (hc : X.calm = true) (hK : X.K = K := by rfl) : CallR X (.builtin "min") (rMin K) := by subst hK; exact cr_min hc
theorem call_isiK0 (hK : X.K = K := by rfl) : CallR X (.builtin "isinstance") (rIsi K) := by subst hK; exact call_isi
theorem cr_sortedK (hK : X.K = K := by rfl) : CallR X (.builtin "sorted") (rSortedPO K) := by subst hK; exact cr_sortedPO
theorem sl_listK (hK : X.K = K := by rfl) : SlR X (rSlL K) := by subst hK; exact sl_list
theorem sl_tupK (hK : X.K = K := by rfl) : SlR X (rSlT K) := by subst hK; exact sl_tup
theorem mt_indexK (hK : X.K = K := by rfl) : MtR X "list.index" (rIndex K) := by subst hK; exact mt_index
def rJoin (K : PySem.W.Frag) : V → List V → Hp → VK → Prop := fun x xs H Q => ∃ a p, ∃ ys : List Str, x = .str a ∧ xs = [.ref p] ∧ (SqL K H p (ys.map V.str) ∨ SqT K H p (ys.map V.str)) ∧ (ys.map (·.length)).sum + ys.length * a.length ≤ 16777216 ∧ Q (.str (Txt.join a ys)) H
theorem mt_joinK (hK : X.K = K := by rfl) : MtR X "str.join" (rJoin K) := by subst hK; exact mt_join
theorem pi_listK {tg l : Expr} {tl : TE} (hl : PE X l tl) (hK : X.K = K := by rfl) : PI X tg l (iList K tl) := by subst hK; exact pi_list hl
theorem pi_tupK {tg l : Expr} {tl : TE} (hl : PE X l tl) (hK : X.K = K := by rfl) : PI X tg l (iTup K tl) := by subst hK; exact pi_tup hl
theorem pi_zipK {e e2 : Expr} {ta : TA} {p pos tpos : Pos} {elts : List Expr} {kk : Nat} (hg : Gl X "zip") (hm : X.mg "zip" = none) (ha : PA X [e, e2] ta) (hK : X.K = K := by rfl) (hs : starEach [e, e2] X.env = (false, eval e X.env) :: starEach [e2] X.env := by rfl) (hs2 : (backTo pos (starEach [e2] X.env)).any (·.1) = false := by rfl) :
    PI X (.Tuple elts kk tpos) (.Call (.Name "zip" p) [e, e2] [] pos) (iZip K ta) := by subst hK; exact pi_zip hg hm ha hs hs2
theorem pi_enumK {e : Expr} {ta : TA} {p pos tpos : Pos} {elts : List Expr} {kk : Nat} (hg : Gl X "enumerate") (hm : X.mg "enumerate" = none) (ha : PA X [e] ta) (hK : X.K = K := by rfl) (hs : starEach [e] X.env = [(false, eval e X.env)] := by rfl) :
    PI X (.Tuple elts kk tpos) (.Call (.Name "enumerate" p) [e] [] pos) (iEnum K ta) := by subst hK; exact pi_enum hg hm ha hs
theorem pg_tupK {es : List Expr} {k : Nat} {t : TGs} {n : Nat} {pos : Pos} (hc : X.calm = true) (h : PGs X es t) (hK : X.K = K := by rfl) (hn : (assignEach es X.env).length = n := by rfl) (hst : (assignEach es X.env).findIdx? (·.1) = none := by rfl) : PG X (.Tuple es k pos) (gTup K n t) := by subst hK; exact pg_tup hc h hn hst
theorem pe_fldK {e : Expr} {f : Str} {pos : Pos} {ta : TE} (he : PE X e ta) (hK : X.K = K := by rfl) (hb : attributeBase e f X.env (eval e X.env) = eval e X.env := by rfl) : PE X (.Attribute e f pos) (tFld K ta f) := by subst hK; exact pe_fld he hb
theorem ps_fldK {o value : Expr} {f : Str} {pos pos' : Pos} {ta tv : TE} (ha : PE X o ta) (hv : PE X value tv) (hK : X.K = K := by rfl) (hs : swapsWith value (some (.Attribute o f pos')) pos.line X.env = pure false := by rfl) : PS X (.Assign [.Attribute o f pos'] value pos) (sFld K ta tv f) := by subst hK; exact ps_fld ha hv hs
theorem pe_bm0K {o : Expr} {to : TE} {name : Str} {apos cpos : Pos} {T id : String} {r : V → List V → Hp → VK → Prop} (pa : PlainAttrs T) (slot : Slot T name id) (hty : typeOf (.builtin id) = pure (.type "method_descriptor")) (hm : MtR X id r) (ho : PE X o to) (hK : X.K = K := by rfl)
    (hbase : attributeBase o name X.env (eval o X.env) = eval o X.env := by rfl) (hline : (apos.endLine == cpos.line) = true := by rfl) : PE X (.Call (.Attribute o name apos) [] [] cpos) (tBM0 K T r to) := by subst hK; exact pe_bm0 pa slot hty hm ho hbase hline
theorem pe_bmK {o e : Expr} {es : List Expr} {to : TE} {t : TA} {name : Str} {apos cpos : Pos} {T id : String} {r : V → List V → Hp → VK → Prop} (pa : PlainAttrs T) (slot : Slot T name id) (hty : typeOf (.builtin id) = pure (.type "method_descriptor")) (hm : MtR X id r) (ho : PE X o to) (ha : PA X (e :: es) t) (hK : X.K = K := by rfl)
    (hbase : attributeBase o name X.env (eval o X.env) = eval o X.env := by rfl)
    (hfew : ((backTo cpos (starEach (e :: es) X.env)).all (fun x => !x.1) && (backToKw cpos (keywordEach [] X.env)).all (fun x => x.1.isSome)
      && decide ((e :: es).length + ([] : List Keyword).length + (if ([] : List Keyword).isEmpty then 0 else 1) < 30)) = true := by rfl)
    (hline : (apos.endLine == cpos.line) = true := by rfl) (hs : starEach (e :: es) X.env = (false, eval e X.env) :: starEach es X.env := by rfl) (hplain : (backTo cpos (starEach es X.env)).any (·.1) = false := by rfl) :
    PE X (.Call (.Attribute o name apos) (e :: es) [] cpos) (tBM K T r to t) := by subst hK; exact pe_bm pa slot hty hm ho ha hbase hfew hline hs hplain
end
end Sp
/-! ## The walk's steps: one lemma a reading, so that a reading is walked by apply -/
namespace Sp
open PySem L2
section
variable {K : PySem.W.Frag} {σ : L2.St} {H H1 : Hp} {ta tb tc te : TE} {x y v : V} {Q : VK} {D : Ends} {t u : TS} {c d : TT} {r : R2}
theorem w_var {i : Nat} (h : σ[i]? = some (some v)) (q : Q v H) : tVar i σ H Q := ⟨v, h, q⟩
theorem w_c (q : Q v H) : tC v σ H Q := q
theorem w_op (h : ta σ H fun x H1 => tb σ H1 fun y H2 => r x y H2 Q) : tOp r ta tb σ H Q := h
theorem w_un {r : V → Hp → VK → Prop} (h : ta σ H fun x H1 => r x H1 Q) : tUn r ta σ H Q := h
theorem w_neg {g : Int → V} {i : Int} (q : Q (g i) H) : rU g (.int i) H Q := ⟨i, rfl, q⟩
theorem w_I0 {g : Int → Int → V} {i j : Int} (q : Q (g i j) H) : rI0 g (.int i) (.int j) H Q := ⟨i, j, rfl, rfl, q⟩
theorem w_I {C : Int → Int → Prop} {g : Int → Int → V} {i j : Int} (h : C i j) (q : Q (g i j) H) : rI C g (.int i) (.int j) H Q := ⟨i, j, rfl, rfl, h, q⟩
theorem w_eq (h : scal x y = true) (q : Q (.bl (decide (x = y))) H) : rEq x y H Q := ⟨h, q⟩
theorem w_ne (h : scal x y = true) (q : Q (.bl (!decide (x = y))) H) : rNe x y H Q := ⟨h, q⟩
theorem w_addS {P : Str → Str → Prop} {i j : Str} (h : i.length + j.length ≤ sizeLine) (q : P i j) : ∃ i' j', V.str i = .str i' ∧ V.str j = .str j' ∧ i'.length + j'.length ≤ sizeLine ∧ P i' j' := ⟨i, j, rfl, rfl, h, q⟩
theorem w_rfl {x : V} {P : Prop} (q : P) : x = x ∧ P := ⟨rfl, q⟩
theorem w_inS {P : Nat → Str → Prop} {c : Nat} {z : Str} (q : P c z) : ∃ c' z', V.str ⟨#[c]⟩ = .str ⟨#[c']⟩ ∧ V.str z = .str z' ∧ P c' z' := ⟨c, z, rfl, rfl, q⟩
theorem w_ints2 {P : Int → Int → Prop} {i j : Int} (q : P i j) : ∃ i' j', [V.int i, V.int j] = [.int i', .int j'] ∧ P i' j' := ⟨i, j, rfl, q⟩
theorem w_ord {P : Str → Prop} {z : Str} (h : z.length = 1) (q : P z) : ∃ z', [V.str z] = [.str z'] ∧ z'.length = 1 ∧ P z' := ⟨z, rfl, h, q⟩
theorem w_strI {P : Int → Prop} {i : Int} (h : i.natAbs.log2 < 1920) (q : P i) : ∃ i', [V.int i] = [.int i'] ∧ i'.natAbs.log2 < 1920 ∧ P i' := ⟨i, rfl, h, q⟩
theorem w_int1 {P : Int → Prop} {R : Bool → Prop} {i : Int} (q : P i) : (∃ i', [V.int i] = [.int i'] ∧ P i') ∨ ∃ k, [V.int i] = [.bl k] ∧ R k := .inl ⟨i, rfl, q⟩
theorem w_int1b {P : Int → Prop} {R : Bool → Prop} {k : Bool} (q : R k) : (∃ i', [V.bl k] = [.int i'] ∧ P i') ∨ ∃ k', [V.bl k] = [.bl k'] ∧ R k' := .inr ⟨k, rfl, q⟩
theorem w_chain {r r' : R2} (h : ta σ H fun x H1 => tb σ H1 fun y H2 => r x y H2 fun z H3 => ∃ k, z = .bl k ∧ (if k = true then tc σ H3 fun w' H4 => r' y w' H4 Q else Q (.bl false) H3)) : tChain r r' ta tb tc σ H Q := h
theorem w_andV (h : ta σ H fun x H1 => ∃ c, x = .bl c ∧ if c = true then tb σ H1 Q else Q (.bl false) H1) : tAndV ta tb σ H Q := h
theorem w_orV (h : ta σ H fun x H1 => ∃ c, x = .bl c ∧ if c = true then Q (.bl true) H1 else tb σ H1 Q) : tOrV ta tb σ H Q := h
theorem w_notV (h : ta σ H fun x H1 => ∃ c, x = .bl c ∧ Q (.bl (!c)) H1) : tNotV ta σ H Q := h
theorem w_test {Q : Bool → Hp → Prop} (h : ta σ H fun x H' => ∃ k, x = .bl k ∧ Q k H') : tTest ta σ H Q := h
theorem w_B {Q : Bool → Hp → Prop} (h : ta σ H fun x H' => ∃ k, x = .bl k ∧ Q k H') : tB ta σ H Q := h
theorem w_and {Q : Bool → Hp → Prop} (h : c σ H fun k H1 => if k = true then d σ H1 Q else Q false H1) : tAnd c d σ H Q := h
theorem w_or {Q : Bool → Hp → Prop} (h : c σ H fun k H1 => if k = true then Q true H1 else d σ H1 Q) : tOr c d σ H Q := h
theorem w_not {Q : Bool → Hp → Prop} (h : c σ H fun k H1 => Q (!k) H1) : tNot c σ H Q := h
theorem w_bl {P : Bool → Prop} {b : Bool} (q : P b) : ∃ k, V.bl b = V.bl k ∧ P k := ⟨b, rfl, q⟩
theorem w_if {A B : TE} (h : c σ H fun k H1 => if k = true then A σ H1 Q else B σ H1 Q) : tIf c A B σ H Q := h
theorem w_nil {Q : List V → Hp → Prop} (q : Q [] H) : tNil σ H Q := q
theorem w_cons {tr : TA} {Q : List V → Hp → Prop} (h : ta σ H fun x H1 => tr σ H1 fun xs H2 => Q (x :: xs) H2) : tCons ta tr σ H Q := h
/-- a new object, then what follows of it -/
def NewQ (o : HO) (Q : VK) (H : Hp) : Prop := ∀ p, H p = none → Q (.ref p) (upd H p o)
theorem w_tup {a : TA} (h : a σ H fun xs H1 => xs.length ≤ sizeLine ∧ NewQ (.tup xs) Q H1) : tTup a σ H Q := h
theorem w_lst {a : TA} (h : a σ H fun xs H1 => xs.length ≤ sizeLine ∧ NewQ (.lst xs) Q H1) : tLst a σ H Q := h
theorem w_call {sp : L2.Sp} {E : XK} {a : TA} (h : a σ H fun vs H1 => sp vs H1 Q E) : tCall sp [] E a σ H Q :=
  cast (congrArg (fun (k : List V → Hp → Prop) => a σ H k) (funext fun vs => funext fun H1 => by show sp vs H1 Q E = sp (vs ++ []) H1 Q E; rw [List.append_nil])) h
theorem w_cb {r : List V → Hp → VK → Prop} {a : TA} (h : a σ H fun vs H1 => r vs H1 Q) : tCB r a σ H Q := h
theorem w_fld {f : Str} (h : ta σ H fun x H1 => ∃ a C dx fs v, x = .ref a ∧ H1 a = some (.ins C dx fs) ∧ Cls K C ∧ NoAttr K C f ∧ fs.lookup f = some v ∧ Q v H1) : tFld K ta f σ H Q := h
theorem w_fld1 {f : Str} {P : Addr → Addr → Addr → List (Str × V) → V → Prop} {a C dx : Addr} {fs : List (Str × V)} (h : H a = some (.ins C dx fs)) (c : Cls K C) (n : NoAttr K C f) (l : fs.lookup f = some v) (q : P a C dx fs v) :
    ∃ a' C dx fs v, V.ref a = .ref a' ∧ H a' = some (.ins C dx fs) ∧ Cls K C ∧ NoAttr K C f ∧ fs.lookup f = some v ∧ P a' C dx fs v := ⟨a, C, dx, fs, v, rfl, h, c, n, l, q⟩
theorem w_asg {i : Nat} (h : te σ H fun x H1 => D.nx (σ.set i (some x)) H1) : tAsg te (gName i) D σ H := h
theorem w_asgG {g : TG} (h : te σ H fun x H1 => g x σ H1 D.nx) : tAsg te g D σ H := h
theorem w_gname {i : Nat} {Q : L2.St → Hp → Prop} (q : Q (σ.set i (some v)) H) : gName i v σ H Q := q
theorem w_ret (h : te σ H D.rt) : tRet te D σ H := h
theorem w_retN (h : D.rt .non H) : tRetN D σ H := h
theorem w_seq (h : t { D with nx := u D } σ H) : tSeq t u D σ H := h
theorem w_next (h : D.nx σ H) : tNext D σ H := h
theorem w_brk (h : D.bk σ H) : tBreak D σ H := h
theorem w_cont (h : D.ct σ H) : tCont D σ H := h
theorem w_drop (h : te σ H fun _ H1 => D.nx σ H1) : tDrop te D σ H := h
theorem w_ifS (h : c σ H fun b H1 => if b = true then t D σ H1 else u D σ H1) : tIfS c t u D σ H := h
theorem w_iteT {A B : Prop} (q : A) : if true = true then A else B := by rw [if_pos rfl]; exact q
theorem w_iteF {A B : Prop} (q : B) : if false = true then A else B := by rw [if_neg Bool.false_ne_true]; exact q
theorem w_iteNF {A B : Prop} (q : A) : if (!false) = true then A else B := by rw [Bool.not_false, if_pos rfl]; exact q
theorem w_iteNT {A B : Prop} (q : B) : if (!true) = true then A else B := by rw [Bool.not_true, if_neg Bool.false_ne_true]; exact q
theorem w_ite {p A B : Prop} [Decidable p] (h1 : p → A) (h2 : ¬ p → B) : if decide p = true then A else B := by
  by_cases h : p
  · rw [if_pos (decide_eq_true h)]; exact h1 h
  · rw [if_neg (by rw [decide_eq_false h]; exact Bool.false_ne_true)]; exact h2 h
theorem w_iteBoth {p A B : Prop} [Decidable p] (hb : B) (h : p → B → A) : if decide p = true then A else B := w_ite (fun q => h q hb) fun _ => hb
theorem w_iteN {p A B : Prop} [Decidable p] (h1 : ¬ p → A) (h2 : p → B) : if (!decide p) = true then A else B := by
  by_cases h : p
  · rw [decide_eq_true h]; exact w_iteF (h2 h)
  · rw [decide_eq_false h]; exact w_iteT (h1 h)
theorem w_iteB {b : Bool} {A B : Prop} (h1 : b = true → A) (h2 : b = false → B) : if b = true then A else B := by
  cases b with
  | true => exact w_iteT (h1 rfl)
  | false => exact w_iteF (h2 rfl)
theorem w_iteK {b : Bool} {A B : Prop} (h : b = true) (q : A) : if b = true then A else B := by rw [h]; exact w_iteT q
theorem w_iteKF {b : Bool} {A B : Prop} (h : b = false) (q : B) : if b = true then A else B := by rw [h]; exact w_iteF q
theorem w_ixL {p : Addr} {xs : List V} {i : Int} (h : SqL K H p xs) (ha : atI xs i = some v) (q : Q v H) : rIxL K (.ref p) (.int i) H Q := ⟨p, xs, i, v, rfl, rfl, h, ha, q⟩
theorem w_ixT {p : Addr} {xs : List V} {i : Int} (h : SqT K H p xs) (ha : atI xs i = some v) (q : Q v H) : rIxT K (.ref p) (.int i) H Q := ⟨p, xs, i, v, rfl, rfl, h, ha, q⟩
theorem w_ixS {z : Str} {i : Int} {c : Nat} (h : z.length ≤ sizeLine) (ha : atI z.cps.toList i = some c) (q : Q (.str ⟨#[c]⟩) H) : rIxS (.str z) (.int i) H Q := ⟨z, i, c, rfl, rfl, h, ha, q⟩
theorem w_lenS {P : Addr → List V → Prop} {p : Addr} {ys : List V} (h : SqL K H p ys) (q : P p ys) : ∃ p' ys', [V.ref p] = [.ref p'] ∧ (SqL K H p' ys' ∨ SqT K H p' ys') ∧ P p' ys' := ⟨p, ys, rfl, .inl h, q⟩
theorem w_lenK {p : Addr} {ys : List V} (h : SqL K H p ys) (q : Q (.int ys.length) H) : rSeqLen K [.ref p] H Q := ⟨p, ys, rfl, .inl h, q⟩
theorem w_lenKU {p : Addr} {ys : List V} (h : SqT K H p ys) (q : Q (.int ys.length) H) : rSeqLen K [.ref p] H Q := ⟨p, ys, rfl, .inr h, q⟩
theorem w_listK {p : Addr} {ys : List V} (h : SqL K H p ys) (q : NewQ (.lst ys) Q H) : rListOf K [.ref p] H Q := ⟨p, ys, rfl, .inl h, q⟩
theorem w_lenU {P : Addr → List V → Prop} {p : Addr} {ys : List V} (h : SqT K H p ys) (q : P p ys) : ∃ p' ys', [V.ref p] = [.ref p'] ∧ (SqL K H p' ys' ∨ SqT K H p' ys') ∧ P p' ys' := ⟨p, ys, rfl, .inr h, q⟩
theorem w_lenT {P : Str → Prop} {z : Str} (h : z.length ≤ sizeLine) (q : P z) : ∃ z', [V.str z] = [.str z'] ∧ z'.length ≤ sizeLine ∧ P z' := ⟨z, rfl, h, q⟩
theorem w_sl {r : V → Option Int → Option Int → Hp → VK → Prop} {tl th : TO} (h : te σ H fun x H1 => tl σ H1 fun l H2 => th σ H2 fun u H3 => r x l u H3 Q) : tSl r te tl th σ H Q := h
theorem w_nopart {Q : Option Int → Hp → Prop} (q : Q none H) : tNoPart σ H Q := q
theorem w_part {Q : Option Int → Hp → Prop} (h : ta σ H fun x H1 => ∃ i, x = .int i ∧ Q (some i) H1) : tPart ta σ H Q := h
theorem w_new {o : HO} (h : ∀ p H1, Same H H1 → H p = none → H1 p = some o → Q (.ref p) H1) : NewQ o Q H := fun p hp =>
  h p _ (fun a u e => by rw [upd_ne (ne_of_none e hp)]; exact e) hp upd_same
theorem w_int {P : Int → Prop} {i : Int} (q : P i) : ∃ j, V.int i = .int j ∧ P j := ⟨i, rfl, q⟩
theorem w_bm {T : String} {r : V → List V → Hp → VK → Prop} {a : TA} (h : te σ H fun x H1 => tyV K T x H1 ∧ a σ H1 fun xs H2 => r x xs H2 Q) : tBM K T r te a σ H Q := h
theorem w_bm0 {T : String} {r : V → List V → Hp → VK → Prop} (h : te σ H fun x H1 => tyV K T x H1 ∧ r x [] H1 Q) : tBM0 K T r te σ H Q := h
theorem w_sfld {tv : TE} {f : Str} (h : tv σ H fun y H1 => ta σ H1 fun x H2 => ∃ a C dx fs, x = .ref a ∧ H2 a = some (.ins C dx fs) ∧ Cls K C ∧ NoAttr K C f ∧ fs.length < 1000 ∧ D.nx σ (upd H2 a (.ins C dx (putF f y fs)))) : sFld K ta tv f D σ H := h
theorem w_isi {x c : V} {t u : Value} {b : Bool} (h1 : ClsV c u) (h2 : TyX K H x t) (h3 : PySem.W.kitOne K t u = some b) (q : Q (.bl b) H) : rIsi K [x, c] H Q := ⟨x, c, t, u, b, rfl, h1, h2, h3, q⟩
theorem w_sum {a : Addr} {ns : List Int} (h : SqL K H a (ns.map V.int)) (q : Q (.int ns.sum) H) : rSum K [.ref a] H Q := ⟨a, ns, rfl, h, q⟩
end
theorem w_iteI {a b : Int} {A B : Prop} (h1 : a = b → A) (h2 : a ≠ b → B) : if decide (V.int a = V.int b) = true then A else B := w_ite (fun h => h1 (V.int.inj h)) fun h => h2 fun e => h (congrArg V.int e)
theorem w_iteNI {a b : Int} {A B : Prop} (h1 : a ≠ b → A) (h2 : a = b → B) : if (!decide (V.int a = V.int b)) = true then A else B := w_iteN (fun h => h1 fun e => h (congrArg V.int e)) fun h => h2 (V.int.inj h)
theorem w_iteS {a b : Str} {A B : Prop} (h1 : a = b → A) (h2 : a ≠ b → B) : if decide (V.str a = V.str b) = true then A else B := w_ite (fun h => h1 (V.str.inj h)) fun h => h2 fun e => h (congrArg V.str e)
theorem w_iteNS {a b : Str} {A B : Prop} (h1 : a ≠ b → A) (h2 : a = b → B) : if (!decide (V.str a = V.str b)) = true then A else B := w_iteN (fun h => h1 fun e => h (congrArg V.str e)) fun h => h2 (V.str.inj h)
theorem w_isiT {x : V} {t T : String} {b : Bool} (h : TyX K H x (.type t)) (hk : kitB t T = some b) (q : Q (.bl b) H) : rIsi K [x, .ty T] H Q := ⟨x, .ty T, .type t, .type T, b, rfl, .ty T, h, kit_ty hk, q⟩
theorem isi_int_int {i : Int} (q : Q (.bl true) H) : rIsi K [.int i, .ty "int"] H Q := w_isiT (.base (.int i)) (b := true) (by decide +kernel) q
theorem isi_int_bool {i : Int} (q : Q (.bl false) H) : rIsi K [.int i, .ty "bool"] H Q := w_isiT (.base (.int i)) (b := false) (by decide +kernel) q
theorem isi_int_str {i : Int} (q : Q (.bl false) H) : rIsi K [.int i, .ty "str"] H Q := w_isiT (.base (.int i)) (b := false) (by decide +kernel) q
theorem isi_int_list {i : Int} (q : Q (.bl false) H) : rIsi K [.int i, .ty "list"] H Q := w_isiT (.base (.int i)) (b := false) (by decide +kernel) q
theorem isi_int_tuple {i : Int} (q : Q (.bl false) H) : rIsi K [.int i, .ty "tuple"] H Q := w_isiT (.base (.int i)) (b := false) (by decide +kernel) q
theorem isi_bl_int {b : Bool} (q : Q (.bl true) H) : rIsi K [.bl b, .ty "int"] H Q := w_isiT (.base (.bl b)) (b := true) (by decide +kernel) q
theorem isi_bl_bool {b : Bool} (q : Q (.bl true) H) : rIsi K [.bl b, .ty "bool"] H Q := w_isiT (.base (.bl b)) (b := true) (by decide +kernel) q
theorem isi_bl_str {b : Bool} (q : Q (.bl false) H) : rIsi K [.bl b, .ty "str"] H Q := w_isiT (.base (.bl b)) (b := false) (by decide +kernel) q
theorem isi_bl_list {b : Bool} (q : Q (.bl false) H) : rIsi K [.bl b, .ty "list"] H Q := w_isiT (.base (.bl b)) (b := false) (by decide +kernel) q
theorem isi_bl_tuple {b : Bool} (q : Q (.bl false) H) : rIsi K [.bl b, .ty "tuple"] H Q := w_isiT (.base (.bl b)) (b := false) (by decide +kernel) q
theorem isi_non_int  (q : Q (.bl false) H) : rIsi K [.non, .ty "int"] H Q := w_isiT (.base (.non)) (b := false) (by decide +kernel) q
theorem isi_non_bool  (q : Q (.bl false) H) : rIsi K [.non, .ty "bool"] H Q := w_isiT (.base (.non)) (b := false) (by decide +kernel) q
theorem isi_non_str  (q : Q (.bl false) H) : rIsi K [.non, .ty "str"] H Q := w_isiT (.base (.non)) (b := false) (by decide +kernel) q
theorem isi_non_list  (q : Q (.bl false) H) : rIsi K [.non, .ty "list"] H Q := w_isiT (.base (.non)) (b := false) (by decide +kernel) q
theorem isi_non_tuple  (q : Q (.bl false) H) : rIsi K [.non, .ty "tuple"] H Q := w_isiT (.base (.non)) (b := false) (by decide +kernel) q
theorem isi_str_int {z : Str} (q : Q (.bl false) H) : rIsi K [.str z, .ty "int"] H Q := w_isiT (.base (.str z)) (b := false) (by decide +kernel) q
theorem isi_str_bool {z : Str} (q : Q (.bl false) H) : rIsi K [.str z, .ty "bool"] H Q := w_isiT (.base (.str z)) (b := false) (by decide +kernel) q
theorem isi_str_str {z : Str} (q : Q (.bl true) H) : rIsi K [.str z, .ty "str"] H Q := w_isiT (.base (.str z)) (b := true) (by decide +kernel) q
theorem isi_str_list {z : Str} (q : Q (.bl false) H) : rIsi K [.str z, .ty "list"] H Q := w_isiT (.base (.str z)) (b := false) (by decide +kernel) q
theorem isi_str_tuple {z : Str} (q : Q (.bl false) H) : rIsi K [.str z, .ty "tuple"] H Q := w_isiT (.base (.str z)) (b := false) (by decide +kernel) q
theorem isi_lst_int {a : Addr} {xs : List V} (h : H a = some (.lst xs)) (q : Q (.bl false) H) : rIsi K [.ref a, .ty "int"] H Q := w_isiT (.base (.lst h)) (b := false) (by decide +kernel) q
theorem isi_lst_bool {a : Addr} {xs : List V} (h : H a = some (.lst xs)) (q : Q (.bl false) H) : rIsi K [.ref a, .ty "bool"] H Q := w_isiT (.base (.lst h)) (b := false) (by decide +kernel) q
theorem isi_lst_str {a : Addr} {xs : List V} (h : H a = some (.lst xs)) (q : Q (.bl false) H) : rIsi K [.ref a, .ty "str"] H Q := w_isiT (.base (.lst h)) (b := false) (by decide +kernel) q
theorem isi_lst_list {a : Addr} {xs : List V} (h : H a = some (.lst xs)) (q : Q (.bl true) H) : rIsi K [.ref a, .ty "list"] H Q := w_isiT (.base (.lst h)) (b := true) (by decide +kernel) q
theorem isi_lst_tuple {a : Addr} {xs : List V} (h : H a = some (.lst xs)) (q : Q (.bl false) H) : rIsi K [.ref a, .ty "tuple"] H Q := w_isiT (.base (.lst h)) (b := false) (by decide +kernel) q
theorem isi_tup_int {a : Addr} {xs : List V} (h : H a = some (.tup xs)) (q : Q (.bl false) H) : rIsi K [.ref a, .ty "int"] H Q := w_isiT (.base (.tup h)) (b := false) (by decide +kernel) q
theorem isi_tup_bool {a : Addr} {xs : List V} (h : H a = some (.tup xs)) (q : Q (.bl false) H) : rIsi K [.ref a, .ty "bool"] H Q := w_isiT (.base (.tup h)) (b := false) (by decide +kernel) q
theorem isi_tup_str {a : Addr} {xs : List V} (h : H a = some (.tup xs)) (q : Q (.bl false) H) : rIsi K [.ref a, .ty "str"] H Q := w_isiT (.base (.tup h)) (b := false) (by decide +kernel) q
theorem isi_tup_list {a : Addr} {xs : List V} (h : H a = some (.tup xs)) (q : Q (.bl false) H) : rIsi K [.ref a, .ty "list"] H Q := w_isiT (.base (.tup h)) (b := false) (by decide +kernel) q
theorem isi_tup_tuple {a : Addr} {xs : List V} (h : H a = some (.tup xs)) (q : Q (.bl true) H) : rIsi K [.ref a, .ty "tuple"] H Q := w_isiT (.base (.tup h)) (b := true) (by decide +kernel) q
theorem w_while {W : Nat → L2.St → Hp → Prop} {m0 : Nat} (h0 : W m0 σ H) (hs : ∀ m σ H, W m σ H → c σ H fun b H1 => if b = true then ∃ N : L2.St → Hp → Prop, (∀ σ' H', N σ' H' → ∃ m', m' < m ∧ W m' σ' H') ∧ t { D with nx := N, ct := N, bk := D.nx } σ H1 else D.nx σ H1) : tWhile c t D σ H := ⟨W, ⟨m0, h0⟩, hs⟩
theorem w_N {m : Nat} {W : Nat → L2.St → Hp → Prop} {R : (L2.St → Hp → Prop) → Prop} (q : R fun σ' H' => ∃ m', m' < m ∧ W m' σ' H') : ∃ N : L2.St → Hp → Prop, (∀ σ' H', N σ' H' → ∃ m', m' < m ∧ W m' σ' H') ∧ R N := ⟨_, fun _ _ h => h, q⟩
theorem w_for {wi : TI} {g : TG} (h : wi σ H fun J H1 => ∃ W : Nat → Nat → L2.St → Hp → Prop, (∃ m, W 0 m σ H1) ∧ ∀ i m σ H, W i m σ H →
  (J.stop i H ∧ D.nx σ H) ∨ (J.go i H ∧ ∃ N : L2.St → Hp → Prop, (∀ σ' H', N σ' H' → ∃ m', m' < m ∧ W (i + 1) m' σ' H') ∧ ∀ x H', J.yld i H x H' → g x σ H' fun σ2 H2 => t { D with nx := N, ct := N, bk := D.nx } σ2 H2)) : tFor wi g t D σ H := h
theorem w_lc {wi : TI} {g : TG} {vs : List Nat} (h : wi σ H fun J H1 => ∀ D, H1 D = none → ∃ W : Nat → Nat → Hp → Prop, (∃ m, W 0 m (upd H1 D (.lst []))) ∧ ∀ i m H, W i m H →
  (J.stop i H ∧ Q (.ref D) H) ∨ (J.go i H ∧ ∃ Nx : Hp → Prop, (∀ H', Nx H' → ∃ m', m' < m ∧ W (i + 1) m' H') ∧ ∀ x H', J.yld i H x H' → g x (wipe σ vs) H' fun σ2 H2 => wipe σ2 vs = wipe σ vs ∧ c σ2 H2 fun b H3 =>
    if b = true then te σ2 H3 fun y H4 => ∃ acc, H4 D = some (.lst acc) ∧ acc.length < sizeLine ∧ Nx (upd H4 D (.lst (acc ++ [y]))) else Nx H3)) : tLc wi g c te vs σ H Q := h
theorem w_iList {R : It → Hp → Prop} (h : ta σ H fun x H1 => ∃ a, x = .ref a ∧ (∃ xs, SqL K H1 a xs) ∧ R (Itl K a) H1) : iList K ta σ H R := h
theorem w_itL {R : Addr → Prop} {a : Addr} {xs : List V} (h : SqL K H a xs) (q : R a) : ∃ a', V.ref a = .ref a' ∧ (∃ xs, SqL K H a' xs) ∧ R a' := ⟨a, rfl, ⟨xs, h⟩, q⟩
theorem w_iStr {R : It → Hp → Prop} (h : ta σ H fun v H1 => ∃ x, v = .str x ∧ R (Its x) H1) : iStr ta σ H R := h
theorem w_str {R : Str → Prop} {z : Str} (q : R z) : ∃ z', V.str z = .str z' ∧ R z' := ⟨z, rfl, q⟩
theorem w_iRng1 {a : TA} {R : It → Hp → Prop} (h : a σ H fun vs H1 => ∃ j : Int, vs = [.int j] ∧ -(2 ^ 62) ≤ j ∧ j < 2 ^ 62 ∧ R (Itr 0 j.toNat) H1) : iRng1 a σ H R := h
theorem w_rng1 {R : Int → Prop} {j : Int} (h1 : -(2 ^ 62) ≤ j) (h2 : j < 2 ^ 62) (q : R j) : ∃ j' : Int, [V.int j] = [.int j'] ∧ -(2 ^ 62) ≤ j' ∧ j' < 2 ^ 62 ∧ R j' := ⟨j, rfl, h1, h2, q⟩
theorem w_iRev {R : It → Hp → Prop} (h : ta σ H fun x H1 => ∃ n, x = .int n ∧ (-(2 ^ 62) ≤ (0 : Int) ∧ (0 : Int) < 2 ^ 62 ∧ -(2 ^ 62) ≤ n ∧ n < 2 ^ 62 ∧ R (Itc (0 + (((n - 0).toNat : Nat) : Int) - 1) (-1) (n - 0).toNat) H1)) : iRevR (tRg1 ta) σ H R := h
theorem w_rev {R : Prop} {n : Int} (h1 : -(2 ^ 62) ≤ n) (h2 : n < 2 ^ 62) (q : R) : -(2 ^ 62) ≤ (0 : Int) ∧ (0 : Int) < 2 ^ 62 ∧ -(2 ^ 62) ≤ n ∧ n < 2 ^ 62 ∧ R := ⟨by decide, by decide, h1, h2, q⟩
theorem w_iZip {a : TA} {R : It → Hp → Prop} (h : a σ H fun vs H1 => ∃ a b xs ys, vs = [.ref a, .ref b] ∧ SqL K H1 a xs ∧ SqL K H1 b ys ∧ R (Itz K a b) H1) : iZip K a σ H R := h
theorem w_zip {R : Addr → Addr → Prop} {a b : Addr} {xs ys : List V} (h1 : SqL K H a xs) (h2 : SqL K H b ys) (q : R a b) : ∃ a' b' xs ys, [V.ref a, V.ref b] = [.ref a', .ref b'] ∧ SqL K H a' xs ∧ SqL K H b' ys ∧ R a' b' := ⟨a, b, xs, ys, rfl, h1, h2, q⟩
theorem w_iEnum {a : TA} {R : It → Hp → Prop} (h : a σ H fun vs H1 => ∃ a xs, vs = [.ref a] ∧ SqL K H1 a xs ∧ R (Ite K a) H1) : iEnum K a σ H R := h
theorem w_enum {R : Addr → Prop} {a : Addr} {xs : List V} (h1 : SqL K H a xs) (q : R a) : ∃ a' xs, [V.ref a] = [.ref a'] ∧ SqL K H a' xs ∧ R a' := ⟨a, xs, rfl, h1, q⟩
theorem w_gTup {n : Nat} {ts : TGs} {R : L2.St → Hp → Prop} {a : Addr} {xs : List V} (h : SqT K H a xs) (hl : xs.length = n) (q : ts xs σ H R) : gTup K n ts (.ref a) σ H R := ⟨a, xs, rfl, h, hl, q⟩
theorem w_gCons {g : TG} {ts : TGs} {R : L2.St → Hp → Prop} {xs : List V} (q : g x σ H fun σ' H' => ts xs σ' H' R) : gCons g ts (x :: xs) σ H R := ⟨x, xs, rfl, q⟩
theorem w_gNil {R : L2.St → Hp → Prop} (q : R σ H) : gNil [] σ H R := ⟨rfl, q⟩
theorem w_app {l : Addr} {xs : List V} (h : H l = some (.lst xs)) (hl : xs.length < sizeLine) (q : Q .non (upd H l (.lst (xs ++ [y])))) : rAppend (.ref l) [y] H Q := ⟨l, xs, y, rfl, rfl, h, hl, q⟩
theorem w_tyL {xs : List V} {a : Addr} {R : Prop} (h : H a = some (.lst xs)) (q : R) : tyV K "list" (.ref a) H ∧ R := ⟨.inl ⟨rfl, _, SqL.of h⟩, q⟩
theorem w_tyS {z : Str} {R : Prop} (q : R) : tyV K "str" (.str z) H ∧ R := ⟨rfl, q⟩
theorem w_gSub {ts : TSet} {R : L2.St → Hp → Prop} (h : ta σ H fun o H1 => tb σ H1 fun i H2 => ts o i v H2 fun H3 => R σ H3) : gSub ta tb ts v σ H R := h
theorem w_setL {R : Hp → Prop} {p : Addr} {xs : List V} {j : Nat} (h : H p = some (.lst xs)) (hj : j < xs.length) (q : R (upd H p (.lst (xs.set j v)))) : rSetL (.ref p) (.int (j : Int)) v H R :=
  ⟨p, xs, (j : Int), j, rfl, rfl, h, (by unfold ixN; rw [if_pos (Int.natCast_nonneg j), if_pos (by omega), Int.toNat_natCast]), q⟩
theorem w_slL {a : Addr} {xs : List V} {lo hi : Option Int} (h : SqL K H a xs) (q : NewQ (.lst (cutV xs lo hi)) Q H) : rSlL K (.ref a) lo hi H Q := ⟨a, xs, rfl, h, q⟩
theorem w_slS {z : Str} {lo hi : Option Int} (h : z.length ≤ sizeLine) (q : Q (.str (cutS z lo hi)) H) : rSlS (.str z) lo hi H Q := ⟨z, rfl, h, q⟩
theorem w_in {p : Addr} {xs : List V} (h : SqL K H p xs) (hx : flatV x = true) (ha : xs.all flatV = true) (q : Q (.bl (inV x xs)) H) : rIn K false x (.ref p) H Q := ⟨p, xs, rfl, .inl h, hx, ha, by rw [if_neg Bool.false_ne_true]; exact q⟩
theorem w_nin {p : Addr} {xs : List V} (h : SqL K H p xs) (hx : flatV x = true) (ha : xs.all flatV = true) (q : Q (.bl (!inV x xs)) H) : rIn K true x (.ref p) H Q := ⟨p, xs, rfl, .inl h, hx, ha, by rw [if_pos rfl]; exact q⟩
theorem w_sz0 {P : Prop} (q : P) : ([] : List V).length ≤ sizeLine ∧ P := ⟨(by show 0 ≤ sizeLine; decide), q⟩
theorem w_sz1 {x0 : V} {P : Prop} (q : P) : ([x0] : List V).length ≤ sizeLine ∧ P := ⟨(by show 1 ≤ sizeLine; decide), q⟩
theorem w_sz2 {x0 x1 : V} {P : Prop} (q : P) : ([x0, x1] : List V).length ≤ sizeLine ∧ P := ⟨(by show 2 ≤ sizeLine; decide), q⟩
theorem w_sz3 {x0 x1 x2 : V} {P : Prop} (q : P) : ([x0, x1, x2] : List V).length ≤ sizeLine ∧ P := ⟨(by show 3 ≤ sizeLine; decide), q⟩
theorem w_sz4 {x0 x1 x2 x3 : V} {P : Prop} (q : P) : ([x0, x1, x2, x3] : List V).length ≤ sizeLine ∧ P := ⟨(by show 4 ≤ sizeLine; decide), q⟩
theorem w_sz5 {x0 x1 x2 x3 x4 : V} {P : Prop} (q : P) : ([x0, x1, x2, x3, x4] : List V).length ≤ sizeLine ∧ P := ⟨(by show 5 ≤ sizeLine; decide), q⟩
theorem w_sz6 {x0 x1 x2 x3 x4 x5 : V} {P : Prop} (q : P) : ([x0, x1, x2, x3, x4, x5] : List V).length ≤ sizeLine ∧ P := ⟨(by show 6 ≤ sizeLine; decide), q⟩
theorem w_sz7 {x0 x1 x2 x3 x4 x5 x6 : V} {P : Prop} (q : P) : ([x0, x1, x2, x3, x4, x5, x6] : List V).length ≤ sizeLine ∧ P := ⟨(by show 7 ≤ sizeLine; decide), q⟩
theorem w_sz8 {x0 x1 x2 x3 x4 x5 x6 x7 : V} {P : Prop} (q : P) : ([x0, x1, x2, x3, x4, x5, x6, x7] : List V).length ≤ sizeLine ∧ P := ⟨(by show 8 ≤ sizeLine; decide), q⟩
theorem w_sz9 {x0 x1 x2 x3 x4 x5 x6 x7 x8 : V} {P : Prop} (q : P) : ([x0, x1, x2, x3, x4, x5, x6, x7, x8] : List V).length ≤ sizeLine ∧ P := ⟨(by show 9 ≤ sizeLine; decide), q⟩
theorem w_yes {Q : Bool → Hp → Prop} (q : Q true H) : tYes σ H Q := q
theorem at0 {α : Type} {x : α} {r : List α} : atI (x :: r) 0 = some x := atI_nat (xs := x :: r) (j := 0) rfl
theorem at1 {α : Type} {x y : α} {r : List α} : atI (x :: y :: r) 1 = some y := atI_nat (xs := x :: y :: r) (j := 1) rfl
theorem w_start {t : TS} {D : Ends} {σ σ' : L2.St} {H : Hp} (e : σ = σ') (h : t D σ' H) : t D σ H := by rw [e]; exact h
theorem hu64 {k : Nat} {A : Around} (hr : Room k A) : A.units + 64 < cLine := hr.units
theorem hu0 {k : Nat} {A : Around} (hr : Room k A) : A.units < cLine := hr.units0
/-- a statement, then the rest, with a word between them: what follows is shown once -/
def tCut (t u : TS) : TS := fun D σ H => ∃ Mid : L2.St → Hp → Prop, t { D with nx := Mid } σ H ∧ ∀ σ' H', Mid σ' H' → u D σ' H'
theorem pss_cut {X : Cx} {st : Stmt} {rest : List Stmt} {t u : TS} (h1 : PS X st t) (h2 : PSs X rest u) : PSs X (st :: rest) (tCut t u) := by
  refine ⟨fun pins s σ H D I h => ?_⟩
  obtain ⟨Mid, hm, hu⟩ := h
  refine wpAny_execs_cons (thn (h1.run pins s σ H { D with nx := Mid } I hm) fun f s1 q => ?_)
  cases f with
  | next =>
    obtain ⟨σ', H', I', q⟩ := q
    exact h2.run pins s1 σ' H' D I' (hu σ' H' q)
  | ret v => exact q
  | brk => exact q
  | cont => exact q
theorem w_cut {t u : TS} {D : Ends} {σ : L2.St} {H : Hp} (M : L2.St → Hp → Prop) (h : t { D with nx := M } σ H) (k : ∀ σ' H', M σ' H' → u D σ' H') : tCut t u D σ H := ⟨M, h, k⟩
/-! ### loops -/
theorem walk_range0 {n : Nat} : Walk (Itr 0 n) n (fun _ => True) (fun i H x H' => H' = H ∧ x = .int (i : Int)) :=
  ⟨fun _ _ hi _ => hi, fun _ _ => Nat.le_refl _, fun i H x H' _ _ y => ⟨y.1, by rw [y.2, Int.zero_add]⟩⟩
theorem walk_down {m : Nat} : Walk (Itc (0 + (((((m : Nat) : Int) - 0).toNat : Nat) : Int) - 1) (-1) (((m : Nat) : Int) - 0).toNat) m (fun _ => True) (fun i H x H' => H' = H ∧ x = .int ((m - 1 - i : Nat) : Int)) := by
  have e : (((m : Nat) : Int) - 0).toNat = m := by omega
  refine ⟨fun i _ hi _ => by show i < _; rw [e]; exact hi, fun _ _ => by show _ ≤ m; rw [e]; exact Nat.le_refl _, fun i H x H' hi _ y => ⟨y.1, ?_⟩⟩
  rw [y.2]
  congr 1
  rw [e]
  omega
theorem take_succ {α : Type} {l : List α} {i : Nat} {x : α} (h : l[i]? = some x) : l.take (i + 1) = l.take i ++ [x] := by
  rw [List.take_add_one, h]
  rfl
theorem same_new0 {H : Hp} {p : Addr} {o : HO} (h : H p = none) : Same H (upd H p o) := fun a u e => by
  rw [upd_ne (ne_of_none e h)]
  exact e
theorem same_mut0 {H H' : Hp} {p : Addr} {o : HO} (e : Same H H') (h : H p = none) : Same H (upd H' p o) := fun a u ha => by
  rw [upd_ne (ne_of_none ha h)]
  exact e a u ha
/-- a comprehension whose elements are ys, each a value told ahead; what was tracked stands -/
theorem lc_pure {J : It} {n : Nat} {G : Hp → Prop} {Y : Nat → Hp → V → Hp → Prop} (w : Walk J n G Y) {g : TG} {te : TE} {vs : List Nat} {σ : L2.St} {H1 : Hp} {Qd : Addr → Hp → Prop} (ys : List V) (hn : ys.length = n) (hz : n ≤ sizeLine) (hG : ∀ H', Same H1 H' → G H')
    (hs : ∀ i x y H H' (R : VK), i < n → ys[i]? = some y → Same H1 H → Y i H x H' → (∀ H4, Same H H4 → R y H4) → g x (wipe σ vs) H' fun σ2 H2 => wipe σ2 vs = wipe σ vs ∧ te σ2 H2 R)
    (hd : ∀ D H', Same H1 H' → H1 D = none → H' D = some (.lst ys) → Qd D H') :
    ∀ D, H1 D = none → ∃ W : Nat → Nat → Hp → Prop, (∃ m, W 0 m (upd H1 D (.lst []))) ∧ ∀ i m H, W i m H →
      (J.stop i H ∧ Qd D H) ∨ (J.go i H ∧ ∃ Nx : Hp → Prop, (∀ H', Nx H' → ∃ m', m' < m ∧ W (i + 1) m' H') ∧ ∀ x H', J.yld i H x H' → g x (wipe σ vs) H' fun σ2 H2 => wipe σ2 vs = wipe σ vs ∧ tYes σ2 H2 fun b H3 =>
        if b = true then te σ2 H3 fun y H4 => ∃ acc, H4 D = some (.lst acc) ∧ acc.length < sizeLine ∧ Nx (upd H4 D (.lst (acc ++ [y]))) else Nx H3) := by
  intro D hD
  refine lc_it w (Qd := Qd D) (fun i H => Same H1 H ∧ H D = some (.lst (ys.take i))) ⟨same_new0 hD, upd_same⟩ (fun i H _ p => hG H p.1) (fun i x H H' hi p y => ?_) (fun H p => hd D H p.1 hD (by rw [p.2, ← hn, List.take_length]))
  have hyi : ys[i]? = some (ys[i]'(by omega)) := List.getElem?_eq_getElem _
  have step := hs i x _ H H' (fun y H4 => ∃ acc, H4 D = some (.lst acc) ∧ acc.length < sizeLine ∧ (Same H1 (upd H4 D (.lst (acc ++ [y]))) ∧ (upd H4 D (.lst (acc ++ [y]))) D = some (.lst (ys.take (i + 1))))) hi hyi p.1 y
    (fun H4 s4 => ⟨ys.take i, s4 _ _ p.2, by rw [List.length_take]; omega, same_mut0 (p.1.trans s4) hD, by rw [take_succ hyi]; exact upd_same⟩)
  exact step
/-- the same with a test, the target a name: kp tells for each whether it is kept -/
theorem lc_kept {J : It} {n : Nat} {G : Hp → Prop} {Y : Nat → Hp → V → Hp → Prop} (w : Walk J n G Y) {j : Nat} {tt : TT} {te : TE} {vs : List Nat} {σ : L2.St} {H1 : Hp} {Qd : Addr → Hp → Prop} (ys : List V) (kp : V → Bool) (hn : ys.length = n) (hz : n ≤ sizeLine) (hG : ∀ H', Same H1 H' → G H')
    (hw : ∀ x, wipe ((wipe σ vs).set j (some x)) vs = wipe σ vs)
    (ht : ∀ i x y H H' (R : Bool → Hp → Prop), i < n → ys[i]? = some y → Same H1 H → Y i H x H' → (∀ H4, Same H H4 → R (kp y) H4) → tt ((wipe σ vs).set j (some x)) H' R)
    (he : ∀ i x y H H' H3 (R : VK), i < n → ys[i]? = some y → Same H1 H → Y i H x H' → Same H H3 → (∀ H4, Same H3 H4 → R y H4) → te ((wipe σ vs).set j (some x)) H3 R)
    (hd : ∀ D H', Same H1 H' → H1 D = none → H' D = some (.lst (ys.filter kp)) → Qd D H') :
    ∀ D, H1 D = none → ∃ W : Nat → Nat → Hp → Prop, (∃ m, W 0 m (upd H1 D (.lst []))) ∧ ∀ i m H, W i m H →
      (J.stop i H ∧ Qd D H) ∨ (J.go i H ∧ ∃ Nx : Hp → Prop, (∀ H', Nx H' → ∃ m', m' < m ∧ W (i + 1) m' H') ∧ ∀ x H', J.yld i H x H' → gName j x (wipe σ vs) H' fun σ2 H2 => wipe σ2 vs = wipe σ vs ∧ tt σ2 H2 fun b H3 =>
        if b = true then te σ2 H3 fun y H4 => ∃ acc, H4 D = some (.lst acc) ∧ acc.length < sizeLine ∧ Nx (upd H4 D (.lst (acc ++ [y]))) else Nx H3) := by
  intro D hD
  refine lc_it w (Qd := Qd D) (fun i H => Same H1 H ∧ H D = some (.lst ((ys.take i).filter kp))) ⟨same_new0 hD, upd_same⟩ (fun i H _ p => hG H p.1) (fun i x H H' hi p y => ?_) (fun H p => hd D H p.1 hD (by rw [p.2, ← hn, List.take_length]))
  have hyi : ys[i]? = some (ys[i]'(by omega)) := List.getElem?_eq_getElem _
  have tk : ys.take (i + 1) = ys.take i ++ [ys[i]'(by omega)] := take_succ hyi
  refine ⟨hw x, ht i x _ H H' _ hi hyi p.1 y fun H4 s4 => ?_⟩
  cases hk : kp (ys[i]'(by omega)) with
  | true =>
    refine w_iteT (he i x _ H H' H4 _ hi hyi p.1 y s4 fun H5 s5 => ⟨(ys.take i).filter kp, s5 _ _ (s4 _ _ p.2), ?_, same_mut0 ((p.1.trans s4).trans s5) hD, ?_⟩)
    · have := List.length_filter_le kp (ys.take i)
      rw [List.length_take] at this
      omega
    · rw [tk, List.filter_append, List.filter_cons_of_pos hk]
      exact upd_same
  | false =>
    refine w_iteF ⟨p.1.trans s4, ?_⟩
    rw [tk, List.filter_append, List.filter_cons_of_neg (by rw [hk]; exact Bool.false_ne_true), List.filter_nil, List.append_nil]
    exact s4 _ _ p.2
/-- a heap's later look -/
theorem Same.at {H H' : Hp} {a : Addr} {o : HO} (s : Same H H') (h : H a = some o) : H' a = some o := s a o h
theorem same_new {H : Hp} {p : Addr} {o : HO} (h : H p = none) : Same H (upd H p o) := fun a u e => by
  rw [upd_ne (ne_of_none e h)]
  exact e
theorem Same.new {H H' : Hp} {p : Addr} {o : HO} (s : Same H H') (h : H' p = none) : Same H (upd H' p o) := s.trans (same_new h)
theorem Same.mut {H H' : Hp} {p : Addr} {o : HO} (e : Same H H') (h : H p = none) : Same H (upd H' p o) := fun a u ha => by
  rw [upd_ne (ne_of_none ha h)]
  exact e a u ha
theorem Same.tup {K : PySem.W.Frag} {H H' : Hp} {a : Addr} {xs : List V} (e : Same H H') (h : SqT K H a xs) : SqT K H' a xs := by
  rcases h with (h | ⟨o, h⟩) | h
  · exact .inl (.inl (e _ _ h))
  · exact .inl (.inr ⟨o, e _ _ h⟩)
  · exact .inr h
end Sp
/-! ## What the defs compute, in plain Lean -/
namespace Sp
open PySem L2
/-- a cell of the script -/
def cellAt (ns : List Int) (k : Int) : Int := if k < (ns.length : Int) then ns.getD k.toNat 0 else 0
def shareBy (c : Int) : Int := if c % 5 = 1 then 1 + c / 5 % 1000000000000 else if c % 5 = 2 then 1 + c / 5 % 3 else 1 + c / 5 % 40
def manyBy (c : Int) : Int := if c / 6 % 5 = 1 then 1 + c / 30 % 40 else 1 + c % 6
theorem atI_int {ns : List Int} {k : Int} (h0 : 0 ≤ k) (h : k < (ns.length : Int)) : atI (ns.map V.int) k = some (.int (ns.getD k.toNat 0)) := by
  obtain ⟨n, rfl⟩ := Int.eq_ofNat_of_zero_le h0
  have hn : n < ns.length := by omega
  refine atI_nat ?_
  rw [List.getElem?_map, List.getElem?_eq_getElem hn]
  show some (V.int _) = some (V.int _)
  rw [Int.toNat_natCast, List.getD_eq_getElem?_getD, List.getElem?_eq_getElem hn]
  rfl
/-- what the program calls a whole number within bounds -/
def wholeV (x : V) (lo hi : Int) : Bool := match x with
  | .int i => decide (lo ≤ i) && decide (i ≤ hi)
  | _ => false
/-- a value of the kinds that are handed in -/
def Kd (H : Hp) (x : V) : Prop := match x with
  | .int _ => True
  | .bl _ => True
  | .non => True
  | .str _ => True
  | .ref a => (∃ xs, H a = some (.lst xs)) ∨ ∃ xs, H a = some (.tup xs)
  | _ => False
abbrev mostShare : Int := 1000000000000
def rowOk (xs : List V) (least : Int) : Bool := xs.all fun y => wholeV y least mostShare
theorem rowOk_ints {ns : List Int} {least : Int} (h : ∀ n ∈ ns, least ≤ n ∧ n ≤ mostShare) : rowOk (ns.map V.int) least = true := by
  unfold rowOk
  rw [List.all_eq_true]
  intro y hy
  obtain ⟨n, hn, rfl⟩ := List.mem_map.mp hy
  obtain ⟨h1, h2⟩ := h n hn
  simp only [wholeV, decide_eq_true h1, decide_eq_true h2, Bool.and_self]
/-- shares that are handed in as they should be -/
structure Good (ns : List Int) : Prop where
  pos : 1 ≤ ns.length
  few : ns.length ≤ 40
  each : ∀ n ∈ ns, 1 ≤ n ∧ n ≤ mostShare
def halvedL (xs : List Int) : List Int := xs.map fun x => x - x / 2
def shrink : Nat → Int → List Int → List Int
  | 0, _, xs => xs
  | n + 1, cap, xs => if cap < xs.sum then shrink n cap (halvedL xs) else xs
def addL (xs ys : List Int) : List Int := List.zipWith (fun x y => x + y) xs ys
def learntL (xs ys : List Int) (cap : Int) : List Int := shrink (addL xs ys).sum.toNat cap (addL xs ys)
theorem halved_sum_le : ∀ xs : List Int, (∀ x ∈ xs, 1 ≤ x) → (halvedL xs).sum ≤ xs.sum ∧ ((halvedL xs).sum = xs.sum → xs.sum = xs.length)
  | [], _ => ⟨Int.le_refl _, fun _ => rfl⟩
  | x :: xs, h => by
    obtain ⟨h1, h2⟩ := halved_sum_le xs fun y hy => h y (List.mem_cons_of_mem _ hy)
    have hx := h x List.mem_cons_self
    have e : (halvedL (x :: xs)).sum = (x - x / 2) + (halvedL xs).sum := by show ((x - x / 2) :: halvedL xs).sum = _; rw [List.sum_cons]
    rw [e, List.sum_cons, List.length_cons]
    refine ⟨by omega, fun q => ?_⟩
    have q1 : (halvedL xs).sum = xs.sum := by omega
    have := h2 q1
    omega
theorem halved_less {xs : List Int} {cap : Int} (h : ∀ x ∈ xs, 1 ≤ x) (hc : (xs.length : Int) ≤ cap) (hs : cap < xs.sum) : (halvedL xs).sum < xs.sum := by
  obtain ⟨h1, h2⟩ := halved_sum_le xs h
  rcases Int.lt_or_eq_of_le h1 with q | q
  · exact q
  · have := h2 q
    omega
theorem halved_pos {xs : List Int} (h : ∀ x ∈ xs, 1 ≤ x) : ∀ x ∈ halvedL xs, 1 ≤ x := fun x hx => by
  obtain ⟨y, hy, rfl⟩ := List.mem_map.mp hx
  have := h y hy
  omega
theorem halved_length (xs : List Int) : (halvedL xs).length = xs.length := List.length_map _
theorem sum_nonneg : ∀ {xs : List Int}, (∀ x ∈ xs, 1 ≤ x) → (xs.length : Int) ≤ xs.sum
  | [], _ => Int.le_refl _
  | x :: xs, h => by
    have h1 := sum_nonneg fun y hy => h y (List.mem_cons_of_mem _ hy)
    have h2 := h x List.mem_cons_self
    rw [List.sum_cons, List.length_cons]
    omega
/-- one turn of the loop, told by the sum as the measure -/
theorem shrink_turn {n : Nat} {cap : Int} {xs : List Int} (h : ∀ x ∈ xs, 1 ≤ x) (hc : (xs.length : Int) ≤ cap) (hs : cap < xs.sum) (hn : xs.sum.toNat ≤ n) : ∃ m, shrink n cap xs = shrink m cap (halvedL xs) ∧ (halvedL xs).sum.toNat ≤ m ∧ (halvedL xs).sum.toNat < xs.sum.toNat := by
  have l := halved_less h hc hs
  have p := sum_nonneg (halved_pos h)
  cases n with
  | zero => omega
  | succ m =>
    refine ⟨m, ?_, by omega, by omega⟩
    show (if cap < xs.sum then shrink m cap (halvedL xs) else xs) = _
    rw [if_pos hs]
theorem shrink_done {n : Nat} {cap : Int} {xs : List Int} (hs : ¬ cap < xs.sum) : shrink n cap xs = xs := by
  cases n with
  | zero => rfl
  | succ m =>
    show (if cap < xs.sum then shrink m cap (halvedL xs) else xs) = _
    rw [if_neg hs]
theorem addL_length {xs ys : List Int} (h : ys.length = xs.length) : (addL xs ys).length = xs.length := by
  unfold addL
  rw [List.length_zipWith, h, Nat.min_self]
theorem addL_get {xs ys : List Int} {i : Nat} {z : Int} (h : (addL xs ys)[i]? = some z) : ∃ x y, xs[i]? = some x ∧ ys[i]? = some y ∧ z = x + y := by
  unfold addL at h
  rw [List.getElem?_zipWith] at h
  cases hx : xs[i]? with
  | none => rw [hx] at h; cases h
  | some x =>
    cases hy : ys[i]? with
    | none => rw [hx, hy] at h; cases h
    | some y => rw [hx, hy] at h; exact ⟨x, y, rfl, rfl, (Option.some.inj h).symm⟩
theorem addL_pos {xs ys : List Int} (hx : ∀ x ∈ xs, 1 ≤ x) (hy : ∀ y ∈ ys, 0 ≤ y) : ∀ z ∈ addL xs ys, 1 ≤ z := fun z hz => by
  obtain ⟨i, hi, e⟩ := List.getElem_of_mem hz
  obtain ⟨x, y, h1, h2, rfl⟩ := addL_get (i := i) (z := z) (by rw [List.getElem?_eq_getElem hi, e])
  have := hx x (List.mem_of_getElem? h1)
  have := hy y (List.mem_of_getElem? h2)
  omega
/-- ints read off a list of them -/
theorem map_int {ns : List Int} {i : Nat} {x : V} (h : (ns.map V.int)[i]? = some x) : ∃ n, ns[i]? = some n ∧ x = .int n := by
  rw [List.getElem?_map] at h
  cases e : ns[i]? with
  | none => rw [e] at h; cases h
  | some n => rw [e] at h; exact ⟨n, rfl, (Option.some.inj h).symm⟩
theorem map_str {ns : List Str} {i : Nat} {x : V} (h : (ns.map V.str)[i]? = some x) : ∃ n, ns[i]? = some n ∧ x = .str n := by
  rw [List.getElem?_map] at h
  cases e : ns[i]? with
  | none => rw [e] at h; cases h
  | some n => rw [e] at h; exact ⟨n, rfl, (Option.some.inj h).symm⟩
theorem int_inj {a b : List Int} (h : a.map V.int = b.map V.int) : a = b := by
  have := congrArg (List.map fun v => match v with | V.int i => i | _ => 0) h
  simpa [List.map_map, Function.comp_def] using this
theorem manyBy_bounds (c : Int) : 1 ≤ manyBy c ∧ manyBy c ≤ 40 := by
  unfold manyBy
  split <;> omega
theorem shareBy_bounds (c : Int) : 1 ≤ shareBy c ∧ shareBy c ≤ mostShare := by
  unfold shareBy mostShare
  split
  · omega
  · split <;> omega
/-- n numbers, each by its place -/
def rowBy (n : Int) (f : Nat → Int) : List Int := (List.range n.toNat).map f
theorem rowBy_length (n : Int) (f : Nat → Int) : (rowBy n f).length = n.toNat := by simp [rowBy]
theorem rowBy_get {n : Int} {f : Nat → Int} {i : Nat} {z : Int} (h : (rowBy n f)[i]? = some z) : z = f i ∧ i < n.toNat := by
  unfold rowBy at h
  rw [List.getElem?_map] at h
  by_cases hi : i < n.toNat
  · rw [List.getElem?_range hi] at h
    exact ⟨(Option.some.inj h).symm, hi⟩
  · rw [List.getElem?_eq_none (by simpa using hi)] at h
    cases h
theorem rowBy_mem {n : Int} {f : Nat → Int} {z : Int} (h : z ∈ rowBy n f) : ∃ i, z = f i ∧ i < n.toNat := by
  obtain ⟨i, hi, e⟩ := List.getElem_of_mem h
  exact ⟨i, rowBy_get (by rw [List.getElem?_eq_getElem hi, e])⟩
theorem inV_int (i : Int) (ns : List Int) : inV (.int i) (ns.map V.int) = decide (i ∈ ns) := by
  unfold inV
  rw [List.any_map]
  by_cases h : i ∈ ns
  · rw [decide_eq_true h, List.any_eq_true]
    exact ⟨i, h, by show (i == i) = true; exact beq_self_eq_true i⟩
  · rw [decide_eq_false h, List.any_eq_false]
    intro j hj
    show ¬ (j == i) = true
    intro q
    have e : j = i := eq_of_beq q
    exact h (e ▸ hj)
theorem flat_ints (ns : List Int) : (ns.map V.int).all flatV = true := by
  rw [List.all_map, List.all_eq_true]
  intro _ _
  rfl
def sharesBy (ns : List Int) : List Int := rowBy (manyBy (cellAt ns 0)) fun k => shareBy (cellAt ns (1 + (k : Int)))
theorem good_shares (ns : List Int) : Good (sharesBy ns) := by
  have h := manyBy_bounds (cellAt ns 0)
  unfold sharesBy
  refine ⟨by rw [rowBy_length]; omega, by rw [rowBy_length]; omega, fun n hn => ?_⟩
  obtain ⟨i, rfl, _⟩ := rowBy_mem hn
  exact shareBy_bounds _
end Sp
/-! ## Texts, as lists of signs -/
namespace Sp
open PySem L2
abbrev S (l : List Nat) : Str := SX.S l
section
variable {K : PySem.W.Frag} {σ : L2.St} {H H1 : Hp} {ta tb te : TE} {x y v : V} {Q : VK}
theorem S_cat (a b : List Nat) : S a ++ S b = S (a ++ b) := SX.S_cat a b
theorem S_len (a : List Nat) : (S a).length = a.length := SX.S_len a
theorem S_get {l : List Nat} {i : Nat} : (S l).cps[i]? = l[i]? := by
  show l.toArray[i]? = l[i]?
  exact List.getElem?_toArray
theorem walk_S {l : List Nat} : Walk (Its (S l)) l.length (fun _ => True) (fun i H v H' => H' = H ∧ ∃ c, l[i]? = some c ∧ v = .str (S [c])) :=
  ⟨fun i _ hi _ => by show i < (S l).cps.size; rw [show (S l).cps.size = l.length from S_len l]; exact hi, fun _ _ => by show (S l).cps.size ≤ l.length; rw [show (S l).cps.size = l.length from S_len l]; exact Nat.le_refl _,
    fun i H v H' _ _ y => by obtain ⟨e, c, hc, hv⟩ := y; exact ⟨e, c, by rw [S_get] at hc; exact hc, hv⟩⟩
theorem w_lenX {P : Str → Prop} {l : List Nat} (h : l.length ≤ sizeLine) (q : P (S l)) : ∃ z', [V.str (S l)] = [.str z'] ∧ z'.length ≤ sizeLine ∧ P z' := ⟨S l, rfl, by rw [S_len]; exact h, q⟩
theorem w_addX {P : Str → Str → Prop} {a b : List Nat} (h : a.length + b.length ≤ sizeLine) (q : P (S a) (S b)) : ∃ i' j', V.str (S a) = .str i' ∧ V.str (S b) = .str j' ∧ i'.length + j'.length ≤ sizeLine ∧ P i' j' := ⟨S a, S b, rfl, rfl, by rw [S_len, S_len]; exact h, q⟩
theorem w_ixX {l : List Nat} {i : Nat} {c : Nat} (h : l.length ≤ sizeLine) (ha : l[i]? = some c) (q : Q (.str (S [c])) H) : rIxS (.str (S l)) (.int (i : Int)) H Q := ⟨S l, i, c, rfl, rfl, by rw [S_len]; exact h, atI_nat ha, q⟩
theorem w_two {P : Str → Str → Prop} {z s : Str} (q : P z s) : ∃ a b, V.str z = .str a ∧ [V.str s] = [.str b] ∧ P a b := ⟨z, s, rfl, rfl, q⟩
theorem w_M1 {r : V → List V → Hp → VK → Prop} (h : ta σ H fun x H1 => (∃ a, x = .str a) ∧ te σ H1 fun y H2 => r x [y] H2 Q) : tM1 r ta te σ H Q := h
theorem w_M1s {z : Str} {R : Prop} (q : R) : (∃ a, V.str z = .str a) ∧ R := ⟨⟨z, rfl⟩, q⟩
theorem w_join {z : Str} {p : Addr} (ys : List Str) (h : SqL K H p (ys.map V.str)) (hz : (ys.map (·.length)).sum + ys.length * z.length ≤ 16777216) (q : Q (.str (Txt.join z ys)) H) : rJoin K (.str z) [.ref p] H Q := ⟨z, p, ys, rfl, rfl, .inl h, hz, q⟩
theorem w_iteX {a b : List Nat} {A B : Prop} (h1 : a = b → A) (h2 : a ≠ b → B) : if decide (V.str (S a) = V.str (S b)) = true then A else B := w_iteS (fun h => h1 (SX.S_inj h)) fun h => h2 fun e => h (congrArg S e)
theorem w_iteNX {a b : List Nat} {A B : Prop} (h1 : a ≠ b → A) (h2 : a = b → B) : if (!decide (V.str (S a) = V.str (S b))) = true then A else B := w_iteNS (fun h => h1 fun e => h (congrArg S e)) fun h => h2 (SX.S_inj h)
end
theorem str_nil : Str.ofString "" = S [] := by decide +kernel
theorem str_0 : Str.ofString "0" = S [48] := by decide +kernel
theorem str_1 : Str.ofString "1" = S [49] := by decide +kernel
theorem cutV_to (xs : List V) (n : Nat) : cutV xs none (some (n : Int)) = xs.take n := by
  unfold cutV
  rw [HT.sIx_nat, HT.sIx_none, List.drop_zero, Nat.sub_zero]
  by_cases h : n ≤ xs.length
  · rw [Nat.min_eq_left h]
  · rw [Nat.min_eq_right (by omega), List.take_length, List.take_of_length_le (by omega)]
theorem cutV_from (xs : List V) (n : Nat) : cutV xs (some (n : Int)) none = xs.drop n := by
  unfold cutV
  rw [HT.sIx_nat, HT.sIx_none]
  by_cases h : n ≤ xs.length
  · rw [Nat.min_eq_left h, List.take_of_length_le (by rw [List.length_drop]; exact Nat.le_refl _)]
  · rw [Nat.min_eq_right (by omega), List.drop_length, List.drop_of_length_le (by omega), List.take_nil]
theorem cutS_S (l : List Nat) (lo hi : Option Int) : cutS (S l) lo hi = S ((l.drop (HT.sIx l.length 0 lo)).take (HT.sIx l.length l.length hi - HT.sIx l.length 0 lo)) := by
  unfold cutS
  rw [S_len] <;> rfl
theorem cutS_to (l : List Nat) (n : Nat) : cutS (S l) none (some (n : Int)) = S (l.take n) := by
  rw [cutS_S, HT.sIx_nat, HT.sIx_none, List.drop_zero, Nat.sub_zero]
  by_cases h : n ≤ l.length
  · rw [Nat.min_eq_left h]
  · rw [Nat.min_eq_right (by omega), List.take_length, List.take_of_length_le (by omega)]
theorem cutS_from (l : List Nat) (n : Nat) : cutS (S l) (some (n : Int)) none = S (l.drop n) := by
  rw [cutS_S, HT.sIx_nat, HT.sIx_none]
  by_cases h : n ≤ l.length
  · rw [Nat.min_eq_left h, List.take_of_length_le (by rw [List.length_drop]; exact Nat.le_refl _)]
  · rw [Nat.min_eq_right (by omega), List.drop_length, List.drop_of_length_le (by omega), List.take_nil]
def rSIndex : V → List V → Hp → VK → Prop := fun x xs H Q => ∃ a b i rest, x = .str a ∧ xs = [.str b] ∧ Builtin.Str.occurrences a b 0 a.length 1 = i :: rest ∧ Q (.int (i : Nat)) H
theorem mt_sindexR {X : Cx} : MtR X "str.index" rSIndex := mt_sindex
theorem str_01 : Str.ofString "01" = S [48, 49] := by decide +kernel
theorem idx_01 {c : Nat} (h : c = 48 ∨ c = 49) : Builtin.Str.occurrences (S [48, 49]) (S [c]) 0 (S [48, 49]).length 1 = [if c = 48 then 0 else 1] := by rcases h with rfl | rfl <;> decide +kernel
theorem joinL_nil : ∀ ys : List (List Nat), TL.joinL [] ys = ys.flatten
  | [] => rfl
  | [p] => by simp [TL.joinL]
  | p :: q :: r => by
    show p ++ ([] ++ TL.joinL [] (q :: r)) = _
    rw [joinL_nil (q :: r), List.nil_append] <;> rfl
theorem join_X (ys : List (List Nat)) : Txt.join (S []) (ys.map S) = S ys.flatten := by rw [SX.join_S, joinL_nil]
theorem flat_one (l : List Nat) : (l.map fun c => [c]).flatten = l := by induction l with | nil => rfl | cons c l ih => rw [List.map_cons, List.flatten_cons, ih] <;> rfl
theorem join_signs (l : List Nat) : Txt.join (S []) (l.map fun c => S [c]) = S l := by
  have e := join_X (l.map fun c => [c])
  rw [flat_one, List.map_map] at e
  exact e
theorem count_X (l : List Nat) (c : Nat) : Txt.count (S l) (S [c]) = (l.count c : Nat) := by
  rw [show Txt.count (S l) (S [c]) = PyProof.Rows.cnt c l from PyProof.Rows.count_cnt (S l) c]
  induction l with
  | nil => rfl
  | cons d l ih =>
    rw [PyProof.Rows.cnt_cons, ih, List.count_cons]
    by_cases h : d = c
    · subst h
      simp
      omega
    · simp [h]
theorem map_S1 {l : List Nat} {i : Nat} {x : V} (h : (l.map fun c => V.str (S [c]))[i]? = some x) : ∃ c, l[i]? = some c ∧ x = .str (S [c]) := by
  rw [List.getElem?_map] at h
  cases e : l[i]? with
  | none => rw [e] at h; cases h
  | some n => rw [e] at h; exact ⟨n, rfl, (Option.some.inj h).symm⟩
/-! ### the signs of the laws' books -/
def someL : List Nat := ((List.range 95).map fun k => 32 + k).filter fun c => c != 37
theorem some_eq : (Str.ofString " !\"#$&'()*+,-./0123456789:;<=>?@ABCDEFGHIJKLMNOPQRSTUVWXYZ[\\]^_`" ++ Str.ofString "abcdefghijklmnopqrstuvwxyz{|}~" : Str) = S someL := by decide +kernel
theorem someL_len : someL.length = 94 := by decide +kernel
theorem someL_all : ∀ c ∈ someL, 32 ≤ c ∧ c ≤ 126 ∧ c ≠ 37 := by decide +kernel
theorem someL_nodup : someL.Nodup := by decide +kernel
def signAt (c : Int) (k : Nat) : Nat := ((c + (k : Int) * (1 + 2 * (c / 94 % 23))) % 94).toNat
def signsBy (c many : Int) : List Nat := (List.range many.toNat).map fun k => someL.getD (signAt c k) 0
theorem signAt_lt (c : Int) (k : Nat) : signAt c k < 94 := by unfold signAt; omega
theorem sign_get (c : Int) (k : Nat) : someL[signAt c k]? = some (someL.getD (signAt c k) 0) := by
  have h : signAt c k < someL.length := by rw [someL_len]; exact signAt_lt c k
  rw [List.getD_eq_getElem?_getD, List.getElem?_eq_getElem h]
  rfl
theorem signsBy_len (c many : Int) : (signsBy c many).length = many.toNat := by simp [signsBy]
theorem signsBy_mem {c many : Int} {z : Nat} (h : z ∈ signsBy c many) : z ∈ someL := by
  obtain ⟨k, _, rfl⟩ := List.mem_map.mp h
  exact List.mem_of_getElem? (sign_get c k)
theorem step_94 : ∀ s : Fin 23, ∀ d : Fin 94, d.val ≠ 0 → (d.val * (1 + 2 * s.val)) % 94 ≠ 0 := by decide +kernel
theorem signAt_inj {c : Int} {j k : Nat} (hk : k < 94) (hj : j < k) : signAt c j ≠ signAt c k := by
  intro e
  have h0 : 0 ≤ c / 94 % 23 := Int.emod_nonneg _ (by decide)
  have h1 : c / 94 % 23 < 23 := Int.emod_lt_of_pos _ (by decide)
  obtain ⟨s, hs⟩ := Int.eq_ofNat_of_zero_le h0
  have hs' : s < 23 := by omega
  have q := step_94 ⟨s, hs'⟩ ⟨k - j, by omega⟩ (by show k - j ≠ 0; omega)
  refine q ?_
  show ((k - j) * (1 + 2 * s)) % 94 = 0
  unfold signAt at e
  rw [hs] at e
  have e2 : (c + (j : Int) * (1 + 2 * (s : Int))) % 94 = (c + (k : Int) * (1 + 2 * (s : Int))) % 94 := by
    have a1 := Int.emod_nonneg (c + (j : Int) * (1 + 2 * (s : Int))) (show (94 : Int) ≠ 0 by decide)
    have a2 := Int.emod_nonneg (c + (k : Int) * (1 + 2 * (s : Int))) (show (94 : Int) ≠ 0 by decide)
    omega
  have e3 : ((k : Int) * (1 + 2 * (s : Int)) - (j : Int) * (1 + 2 * (s : Int))) % 94 = 0 := by omega
  have e4 : ((k : Int) - (j : Int)) * (1 + 2 * (s : Int)) = (k : Int) * (1 + 2 * (s : Int)) - (j : Int) * (1 + 2 * (s : Int)) := Int.sub_mul _ _ _
  rw [← e4] at e3
  have e5 : (((k - j) * (1 + 2 * s) : Nat) : Int) = ((k : Int) - (j : Int)) * (1 + 2 * (s : Int)) := by
    rw [Int.natCast_mul, Int.natCast_add, Int.natCast_mul, Int.ofNat_sub (by omega)]
    rfl
  rw [← e5] at e3
  omega
theorem signsBy_nodup {c many : Int} (h : many ≤ 94) : (signsBy c many).Nodup := by
  unfold signsBy
  rw [List.nodup_iff_pairwise_ne, List.pairwise_map]
  refine List.Pairwise.imp_of_mem (R := fun a b => a < b) (fun {a b} ha hb hab q => ?_) List.pairwise_lt_range
  have hb' := List.mem_range.mp hb
  have h1 : signAt c a < someL.length := by rw [someL_len]; exact signAt_lt c a
  have h2 : signAt c b < someL.length := by rw [someL_len]; exact signAt_lt c b
  have g1 := sign_get c a
  have g2 := sign_get c b
  rw [q] at g1
  rw [List.getElem?_eq_getElem h1] at g1
  rw [List.getElem?_eq_getElem h2] at g2
  have e := (List.getElem_inj someL_nodup).mp ((Option.some.inj g1).trans (Option.some.inj g2).symm)
  exact signAt_inj (by omega) hab e
/-- how often each sign stands in a text -/
def countsL (signs block : List Nat) : List Int := signs.map fun c => ((block.count c : Nat) : Int)
theorem countsL_len (signs block : List Nat) : (countsL signs block).length = signs.length := List.length_map _
end Sp
/-! ## Pairing: the pairs, in plain Lean -/
namespace Sp
open PySem PySem.Spec PyProof.Rows L2
/-- a node: its weight, its number -/
abbrev Node := Int × Nat
def nle (a b : Node) : Bool := decide (a.1 < b.1 ∨ (a.1 = b.1 ∧ a.2 ≤ b.2))
theorem nle_iff {a b : Node} : nle a b = true ↔ a.1 < b.1 ∨ (a.1 = b.1 ∧ a.2 ≤ b.2) := decide_eq_true_iff
def isort (l : List Node) : List Node := l.mergeSort nle
theorem isort_perm (l : List Node) : (isort l).Perm l := List.mergeSort_perm l nle
theorem isort_sorted (l : List Node) : (isort l).Pairwise fun a b => nle a b = true :=
  List.pairwise_mergeSort (fun a b c h1 h2 => by rw [nle_iff] at h1 h2 ⊢; omega) (fun a b => by
    rw [Bool.or_eq_true, nle_iff, nle_iff]
    omega) l
theorem isort_one {l m : List Node} (h : m.Pairwise fun a b => nle a b = true) (p : m.Perm l) : m = isort l :=
  List.Perm.eq_of_pairwise (le := fun a b => nle a b = true) (fun a b _ _ h1 h2 => by
    rw [nle_iff] at h1 h2
    exact Prod.ext (by omega) (by omega)) h (isort_sorted l) (p.trans (isort_perm l).symm)
theorem isort_len (l : List Node) : (isort l).length = l.length := (isort_perm l).length_eq
/-- from the nodes that are left, the next number being nx -/
def pairLoop : Nat → Nat → List Node → List (Nat × Nat)
  | 0, _, _ => []
  | f + 1, nx, left => match isort left with
    | a :: b :: r => (a.2, b.2) :: pairLoop f (nx + 1) (r ++ [(a.1 + b.1, nx)])
    | _ => []
def nodesOf (ns : List Int) : List Node := ns.zipIdx
def pairsL (ns : List Int) : List (Nat × Nat) := pairLoop ns.length ns.length (nodesOf ns)
theorem pairLoop_step {f nx : Nat} {left r : List Node} {a b : Node} (h : isort left = a :: b :: r) : pairLoop (f + 1) nx left = (a.2, b.2) :: pairLoop f (nx + 1) (r ++ [(a.1 + b.1, nx)]) := by
  show (match isort left with | a :: b :: r => (a.2, b.2) :: pairLoop f (nx + 1) (r ++ [(a.1 + b.1, nx)]) | _ => []) = _
  rw [h]
theorem pairLoop_done {f nx : Nat} {left : List Node} (h : left.length ≤ 1) : pairLoop f nx left = [] := by
  cases f with
  | zero => rfl
  | succ f =>
    have hl := isort_len left
    show (match isort left with | a :: b :: r => (a.2, b.2) :: pairLoop f (nx + 1) (r ++ [(a.1 + b.1, nx)]) | _ => []) = _
    cases e : isort left with
    | nil => rfl
    | cons a r =>
      cases r with
      | nil => rfl
      | cons b r => rw [e, List.length_cons, List.length_cons] at hl; omega
theorem two_of {l : List Node} (h : 2 ≤ l.length) : ∃ a b r, isort l = a :: b :: r ∧ r.length + 2 = l.length := by
  have hl := isort_len l
  cases e : isort l with
  | nil => rw [e] at hl; simp at hl; omega
  | cons a r =>
    cases r with
    | nil => rw [e] at hl; simp at hl; omega
    | cons b r => exact ⟨a, b, r, rfl, by rw [e] at hl; simpa using hl⟩
theorem pairLoop_len : ∀ (f nx : Nat) (left : List Node), left.length ≤ f + 1 → (pairLoop f nx left).length = left.length - 1
  | 0, _, left, h => by show 0 = _; omega
  | f + 1, nx, left, h => by
    by_cases h2 : 2 ≤ left.length
    · obtain ⟨a, b, r, e, hr⟩ := two_of h2
      rw [pairLoop_step e, List.length_cons, pairLoop_len f (nx + 1) _ (by simp; omega)]
      simp
      omega
    · rw [pairLoop_done (by omega)]
      simp
      omega
theorem nodesOf_len (ns : List Int) : (nodesOf ns).length = ns.length := List.length_zipIdx
theorem pairsL_len (ns : List Int) : (pairsL ns).length = ns.length - 1 := by
  unfold pairsL
  rw [pairLoop_len _ _ _ (by rw [nodesOf_len]; omega), nodesOf_len]
/-- the pairs as a run, from the nodes that are left on -/
inductive Run : Nat → List Node → List (Nat × Nat) → Prop
  | done {nx : Nat} {left : List Node} (h : left.length ≤ 1) : Run nx left []
  | step {nx : Nat} {left r : List Node} {a b : Node} {rows : List (Nat × Nat)} (e : isort left = a :: b :: r) (h : Run (nx + 1) (r ++ [(a.1 + b.1, nx)]) rows) : Run nx left ((a.2, b.2) :: rows)
theorem run_loop : ∀ (f nx : Nat) (left : List Node), left.length ≤ f + 1 → Run nx left (pairLoop f nx left)
  | 0, _, left, h => .done (by omega)
  | f + 1, nx, left, h => by
    by_cases h2 : 2 ≤ left.length
    · obtain ⟨a, b, r, e, hr⟩ := two_of h2
      rw [pairLoop_step e]
      exact .step e (run_loop f (nx + 1) _ (by simp; omega))
    · rw [pairLoop_done (by omega)]
      exact .done (by omega)
theorem run_pairs (ns : List Int) : Run ns.length (nodesOf ns) (pairsL ns) := run_loop _ _ _ (by rw [nodesOf_len]; omega)
/-- what holds of the nodes that are left: their numbers are below the next one and differ -/
structure LeftOk (nx : Nat) (left : List Node) : Prop where
  lt : ∀ p ∈ left, p.2 < nx
  nd : (left.map (·.2)).Nodup
theorem LeftOk.perm {nx : Nat} {left m : List Node} (h : LeftOk nx left) (p : m.Perm left) : LeftOk nx m :=
  ⟨fun q hq => h.lt q (p.mem_iff.mp hq), (p.map (·.2)).nodup_iff.mpr h.nd⟩
theorem LeftOk.next {nx : Nat} {left r : List Node} {a b : Node} (h : LeftOk nx left) (e : isort left = a :: b :: r) : LeftOk (nx + 1) (r ++ [(a.1 + b.1, nx)]) := by
  have h' : LeftOk nx (a :: b :: r) := e ▸ h.perm (isort_perm left)
  have nd := h'.nd
  rw [List.map_cons, List.map_cons, List.nodup_cons, List.nodup_cons] at nd
  refine ⟨fun p hp => ?_, ?_⟩
  · rcases List.mem_append.mp hp with q | q
    · have := h'.lt p (List.mem_cons_of_mem _ (List.mem_cons_of_mem _ q))
      omega
    · rw [List.mem_singleton] at q
      rw [q]
      exact Nat.lt_succ_self nx
  · rw [List.map_append]
    refine List.nodup_append.mpr ⟨nd.2.2, by simp, fun x hx y hy => ?_⟩
    obtain ⟨p, hp, rfl⟩ := List.mem_map.mp hx
    have := h'.lt p (List.mem_cons_of_mem _ (List.mem_cons_of_mem _ hp))
    simp at hy
    omega
theorem nodesOf_ok (ns : List Int) : LeftOk ns.length (nodesOf ns) := by
  refine ⟨fun p hp => ?_, ?_⟩
  · obtain ⟨i, hi, e⟩ := List.getElem_of_mem hp
    have q : (nodesOf ns)[i]? = some p := by rw [List.getElem?_eq_getElem hi, e]
    unfold nodesOf at q
    rw [List.getElem?_zipIdx] at q
    cases h : ns[i]? with
    | none => rw [h] at q; cases q
    | some n =>
      rw [h] at q
      have := Option.some.inj q
      rw [← this]
      have hi' := (List.getElem?_eq_some_iff.mp h).1
      show 0 + i < ns.length
      omega
  · unfold nodesOf
    rw [List.zipIdx_map_snd]
    exact List.nodup_range'
/-- the numbers in the rows: of nodes that are left, or later ones; each at most once -/
theorem Run.nums {nx : Nat} {left : List Node} {rows : List (Nat × Nat)} (h : Run nx left rows) (ok : LeftOk nx left) :
    (∀ (i a b : Nat), rows[i]? = some (a, b) → a < nx + i ∧ b < nx + i ∧ a ≠ b) ∧
    (∀ (i a b : Nat), rows[i]? = some (a, b) → (a ∈ left.map (·.2) ∨ nx ≤ a) ∧ (b ∈ left.map (·.2) ∨ nx ≤ b)) ∧
    (∀ (i j a b c d : Nat), rows[i]? = some (a, b) → rows[j]? = some (c, d) → i ≠ j → a ≠ c ∧ a ≠ d ∧ b ≠ c ∧ b ≠ d) := by
  induction h with
  | done h => exact ⟨fun i a b q => (by simp at q), fun i a b q => (by simp at q), fun i j a b c d q => (by simp at q)⟩
  | @step nx left r a b rows e h ih =>
    obtain ⟨i1, i2, i3⟩ := ih (ok.next e)
    have ok' : LeftOk nx (a :: b :: r) := e ▸ ok.perm (isort_perm left)
    have nd := ok'.nd
    rw [List.map_cons, List.map_cons, List.nodup_cons, List.nodup_cons] at nd
    have ha := ok'.lt a List.mem_cons_self
    have hb := ok'.lt b (List.mem_cons_of_mem _ List.mem_cons_self)
    have hab : a.2 ≠ b.2 := fun q => nd.1 (by rw [q]; exact List.mem_cons_self)
    have mem : ∀ x, x ∈ (a :: b :: r).map (·.2) → x ∈ left.map (·.2) := fun x hx => (((isort_perm left).map (·.2)).mem_iff.mp (by rw [e]; exact hx))
    -- a later pair's number is none of these two
    have far : ∀ x, (x ∈ (r ++ [(a.1 + b.1, nx)]).map (·.2) ∨ nx + 1 ≤ x) → a.2 ≠ x ∧ b.2 ≠ x := fun x hx => by
      rcases hx with hx | hx
      · rw [List.map_append] at hx
        rcases List.mem_append.mp hx with q | q
        · exact ⟨fun z => nd.1 (by rw [z]; exact List.mem_cons_of_mem _ q), fun z => nd.2.1 (by rw [z]; exact q)⟩
        · simp at q
          omega
      · omega
    refine ⟨fun i x y q => ?_, fun i x y q => ?_, fun i j x y z v q1 q2 hij => ?_⟩
    · cases i with
      | zero => cases q; exact ⟨by omega, by omega, hab⟩
      | succ i =>
        have := i1 i x y q
        omega
    · cases i with
      | zero => cases q; exact ⟨.inl (mem _ (by simp)), .inl (mem _ (by simp))⟩
      | succ i =>
        have s : ∀ x, (x ∈ (r ++ [(a.1 + b.1, nx)]).map (·.2) ∨ nx + 1 ≤ x) → x ∈ left.map (·.2) ∨ nx ≤ x := fun x hx => by
          rcases hx with hx | hx
          · rw [List.map_append] at hx
            rcases List.mem_append.mp hx with q | q
            · exact .inl (mem _ (by rw [List.map_cons, List.map_cons]; exact List.mem_cons_of_mem _ (List.mem_cons_of_mem _ q)))
            · simp at q
              exact .inr (by omega)
          · exact .inr (by omega)
        have := i2 i x y q
        exact ⟨s x this.1, s y this.2⟩
    · cases i with
      | zero =>
        cases q1
        cases j with
        | zero => exact absurd rfl hij
        | succ j =>
          have := i2 j z v q2
          have f1 := far z this.1
          have f2 := far v this.2
          exact ⟨f1.1, f2.1, f1.2, f2.2⟩
      | succ i =>
        cases j with
        | zero =>
          cases q2
          have := i2 i x y q1
          have f1 := far x this.1
          have f2 := far y this.2
          exact ⟨f1.1.symm, f1.2.symm, f2.1.symm, f2.2.symm⟩
        | succ j => exact i3 i j x y z v q1 q2 (by omega)
/-! ## The codes: the ways from the top -/
abbrev Word := List Nat
def waysStep (n : Nat) (rows : List (Nat × Nat)) (k : Nat) (A : List Word) : List Word := match rows[k]? with
  | some (a, b) => (A.set a (A.getD (n + k) [] ++ [48])).set b (A.getD (n + k) [] ++ [49])
  | none => A
def waysLoop (n : Nat) (rows : List (Nat × Nat)) : Nat → List Word → List Word
  | 0, A => A
  | k + 1, A => waysLoop n rows k (waysStep n rows k A)
def waysL (n : Nat) (rows : List (Nat × Nat)) : List Word := waysLoop n rows rows.length (List.replicate (n + rows.length) [])
def codesL (ns : List Int) : List Word := (waysL ns.length (pairsL ns)).take ns.length
theorem waysStep_len (n : Nat) (rows : List (Nat × Nat)) (k : Nat) (A : List Word) : (waysStep n rows k A).length = A.length := by
  unfold waysStep
  split <;> simp
theorem waysLoop_len (n : Nat) (rows : List (Nat × Nat)) : ∀ (k : Nat) (A : List Word), (waysLoop n rows k A).length = A.length
  | 0, _ => rfl
  | k + 1, A => by
    show (waysLoop n rows k (waysStep n rows k A)).length = _
    rw [waysLoop_len n rows k, waysStep_len]
theorem waysL_len (n : Nat) (rows : List (Nat × Nat)) : (waysL n rows).length = n + rows.length := by unfold waysL; rw [waysLoop_len, List.length_replicate]
theorem codesL_len (ns : List Int) : (codesL ns).length = ns.length := by unfold codesL; rw [List.length_take, waysL_len]; omega
theorem getD_set_ne {A : List Word} {i j : Nat} {x : Word} (h : i ≠ j) : (A.set i x).getD j [] = A.getD j [] := by
  rw [List.getD_eq_getElem?_getD, List.getD_eq_getElem?_getD, List.getElem?_set_ne h]
theorem getD_set_self {A : List Word} {i : Nat} {x : Word} (h : i < A.length) : (A.set i x).getD i [] = x := by
  rw [List.getD_eq_getElem?_getD, List.getElem?_set_self h]
  rfl
/-- the rows' numbers as a run gives them -/
structure Nums (n : Nat) (rows : List (Nat × Nat)) : Prop where
  lt : ∀ (i a b : Nat), rows[i]? = some (a, b) → a < n + i ∧ b < n + i ∧ a ≠ b
  apart : ∀ (i j a b c d : Nat), rows[i]? = some (a, b) → rows[j]? = some (c, d) → i ≠ j → a ≠ c ∧ a ≠ d ∧ b ≠ c ∧ b ≠ d
theorem nums_pairs (ns : List Int) : Nums ns.length (pairsL ns) := by
  obtain ⟨h1, _, h3⟩ := (run_pairs ns).nums (nodesOf_ok ns)
  exact ⟨h1, h3⟩
theorem waysLoop_keep {n : Nat} {rows : List (Nat × Nat)} {j : Nat} : ∀ (k : Nat) (A : List Word), (∀ i a b, i < k → rows[i]? = some (a, b) → j ≠ a ∧ j ≠ b) → (waysLoop n rows k A).getD j [] = A.getD j []
  | 0, _, _ => rfl
  | k + 1, A, h => by
    show (waysLoop n rows k (waysStep n rows k A)).getD j [] = _
    rw [waysLoop_keep k _ fun i a b hi q => h i a b (by omega) q]
    unfold waysStep
    cases q : rows[k]? with
    | none => rfl
    | some p =>
      obtain ⟨a, b⟩ := p
      have := h k a b (by omega) q
      show ((A.set a _).set b _).getD j [] = _
      rw [getD_set_ne (Ne.symm this.2), getD_set_ne (Ne.symm this.1)]
theorem waysLoop_pair {n : Nat} {rows : List (Nat × Nat)} (N : Nums n rows) : ∀ (k : Nat) (A : List Word), n + k ≤ A.length → ∀ i a b, i < k → rows[i]? = some (a, b) →
    (waysLoop n rows k A).getD a [] = (waysLoop n rows k A).getD (n + i) [] ++ [48] ∧ (waysLoop n rows k A).getD b [] = (waysLoop n rows k A).getD (n + i) [] ++ [49]
  | 0, _, _, _, _, _, h, _ => absurd h (Nat.not_lt_zero _)
  | k + 1, A, hA, i, a, b, hi, q => by
    show (waysLoop n rows k (waysStep n rows k A)).getD a [] = (waysLoop n rows k (waysStep n rows k A)).getD (n + i) [] ++ [48] ∧ (waysLoop n rows k (waysStep n rows k A)).getD b [] = (waysLoop n rows k (waysStep n rows k A)).getD (n + i) [] ++ [49]
    by_cases hik : i < k
    · exact waysLoop_pair N k _ (by rw [waysStep_len]; omega) i a b hik q
    · have e : i = k := by omega
      subst e
      have l := N.lt i a b q
      have k1 : ∀ x, (x = a ∨ x = b) → ∀ i' a' b', i' < i → rows[i']? = some (a', b') → x ≠ a' ∧ x ≠ b' := fun x hx i' a' b' hi' q' => by
        have := N.apart i i' a b a' b' q q' (by omega)
        rcases hx with rfl | rfl
        · exact ⟨this.1, this.2.1⟩
        · exact ⟨this.2.2.1, this.2.2.2⟩
      have k2 : ∀ i' a' b', i' < i → rows[i']? = some (a', b') → n + i ≠ a' ∧ n + i ≠ b' := fun i' a' b' hi' q' => by
        have := N.lt i' a' b' q'
        omega
      rw [waysLoop_keep i _ (k1 a (.inl rfl)), waysLoop_keep i _ (k1 b (.inr rfl)), waysLoop_keep i _ k2]
      unfold waysStep
      rw [q]
      show ((A.set a _).set b _).getD a [] = ((A.set a _).set b _).getD (n + i) [] ++ [48] ∧ ((A.set a _).set b _).getD b [] = ((A.set a _).set b _).getD (n + i) [] ++ [49]
      rw [getD_set_ne (Ne.symm l.2.2), getD_set_self (by omega), getD_set_self (by simp; omega), getD_set_ne (by omega), getD_set_ne (by omega)]
      exact ⟨rfl, rfl⟩
/-- what the ways are -/
structure Ways (n : Nat) (tot : List (Nat × Nat)) (way : Nat → Word) : Prop where
  pair : ∀ (k a b : Nat), tot[k]? = some (a, b) → way a = way (n + k) ++ [48] ∧ way b = way (n + k) ++ [49]
  top : way (n + tot.length - 1) = []
def wayL (ns : List Int) (j : Nat) : Word := (waysL ns.length (pairsL ns)).getD j []
theorem ways_is (ns : List Int) (h : 1 ≤ ns.length) : Ways ns.length (pairsL ns) (wayL ns) := by
  have N := nums_pairs ns
  refine ⟨fun k a b q => waysLoop_pair N _ _ (by simp) k a b (List.getElem?_eq_some_iff.mp q).1 q, ?_⟩
  unfold wayL waysL
  rw [waysLoop_keep]
  · rw [List.getD_eq_getElem?_getD, List.getElem?_replicate]
    split <;> rfl
  · intro i a b hi q
    have := N.lt i a b q
    omega
theorem codesL_get {ns : List Int} {i : Nat} (h : i < ns.length) : (codesL ns)[i]? = some (wayL ns i) := by
  unfold codesL wayL
  rw [List.getElem?_take_of_lt h, List.getD_eq_getElem?_getD, List.getElem?_eq_getElem (by rw [waysL_len]; omega)]
  rfl
/-- one node alone is the last one made -/
structure LeftAt (nx : Nat) (left : List Node) : Prop extends LeftOk nx left where
  one : left.length = 1 → ∀ p ∈ left, p.2 = nx - 1
  ne : left ≠ []
theorem LeftAt.next {nx : Nat} {left r : List Node} {a b : Node} (h : LeftAt nx left) (e : isort left = a :: b :: r) : LeftAt (nx + 1) (r ++ [(a.1 + b.1, nx)]) :=
  ⟨h.toLeftOk.next e, fun hl p hp => by
    cases r with
    | nil => rw [List.nil_append, List.mem_singleton] at hp; rw [hp]; rfl
    | cons c r => simp at hl, by simp⟩
theorem nodesOf_at {ns : List Int} (h : 1 ≤ ns.length) : LeftAt ns.length (nodesOf ns) :=
  ⟨nodesOf_ok ns, fun hl p hp => by
    rw [nodesOf_len] at hl
    have := (nodesOf_ok ns).lt p hp
    omega, fun e => by
    have := nodesOf_len ns
    rw [e] at this
    simp at this
    omega⟩
/-- from the last pair back to the first: P of the nodes that are left and the pairs from here on -/
theorem Run.back {n : Nat} {tot : List (Nat × Nat)} {way : Nat → Word} (W : Ways n tot way) (P : List Node → List (Nat × Nat) → Prop) (base : ∀ w x, way x = [] → P [(w, x)] [])
    (step : ∀ (nx : Nat) (left r : List Node) (a b : Node) (rows : List (Nat × Nat)), isort left = a :: b :: r → LeftAt nx left → way a.2 = way nx ++ [48] → way b.2 = way nx ++ [49] → n ≤ nx → tot[nx - n]? = some (a.2, b.2) → nx + (rows.length + 1) = n + tot.length → P (r ++ [(a.1 + b.1, nx)]) rows → P left ((a.2, b.2) :: rows))
    {nx : Nat} {left : List Node} {rows : List (Nat × Nat)} (h : Run nx left rows) (ok : LeftAt nx left) (hn : n ≤ nx) (hr : rows = tot.drop (nx - n)) (hl : nx + rows.length = n + tot.length) : P left rows := by
  induction h with
  | @done nx left h =>
    cases left with
    | nil => exact absurd rfl ok.ne
    | cons p r =>
      cases r with
      | nil =>
        have e := ok.one rfl p List.mem_cons_self
        obtain ⟨w, x⟩ := p
        refine base w x ?_
        have t := W.top
        rw [List.length_nil, Nat.add_zero] at hl
        rw [← hl] at t
        have e' : x = nx - 1 := e
        rw [e']
        exact t
      | cons q r => simp at h
  | @step nx left r a b rows e h ih =>
    have q : tot[nx - n]? = some (a.2, b.2) := by
      have z : (tot.drop (nx - n))[0]? = some (a.2, b.2) := by rw [← hr]; rfl
      rw [List.getElem?_drop] at z
      exact z
    have w := W.pair _ _ _ q
    rw [show n + (nx - n) = nx by omega] at w
    refine step nx left r a b rows e ok w.1 w.2 hn q (by rw [List.length_cons] at hl; exact hl) (ih (ok.next e) (by omega) ?_ (by rw [List.length_cons] at hl; omega))
    have z := congrArg List.tail hr
    rw [List.tail_cons, List.tail_drop] at z
    rw [z, show nx - n + 1 = nx + 1 - n by omega]
/-- .. for the nodes of shares -/
theorem back_codes {ns : List Int} (h : 1 ≤ ns.length) (P : List Node → List (Nat × Nat) → Prop) (base : ∀ w x, wayL ns x = [] → P [(w, x)] [])
    (step : ∀ (nx : Nat) (left r : List Node) (a b : Node) (rows : List (Nat × Nat)), isort left = a :: b :: r → LeftAt nx left → wayL ns a.2 = wayL ns nx ++ [48] → wayL ns b.2 = wayL ns nx ++ [49] → ns.length ≤ nx → (pairsL ns)[nx - ns.length]? = some (a.2, b.2) → nx + (rows.length + 1) = ns.length + (pairsL ns).length → P (r ++ [(a.1 + b.1, nx)]) rows → P left ((a.2, b.2) :: rows)) :
    P (nodesOf ns) (pairsL ns) :=
  (run_pairs ns).back (ways_is ns h) P base step (nodesOf_at h) (Nat.le_refl _) (by rw [Nat.sub_self, List.drop_zero]) rfl
theorem mem_left {left r : List Node} {a b : Node} (e : isort left = a :: b :: r) {p : Node} (h : p ∈ left) : p = a ∨ p = b ∨ p ∈ r := by
  have q := (isort_perm left).mem_iff.mpr h
  rw [e] at q
  simpa using q
theorem nodesOf_get {ns : List Int} {i : Nat} {n : Int} (h : ns[i]? = some n) : (n, i) ∈ nodesOf ns := by
  refine List.mem_of_getElem? (i := i) ?_
  unfold nodesOf
  rw [List.getElem?_zipIdx, h]
  show some (n, 0 + i) = _
  rw [Nat.zero_add]
theorem node_at (ns : List Int) {i : Nat} (h : i < ns.length) : ∃ n, (n, i) ∈ nodesOf ns := ⟨ns[i], nodesOf_get (List.getElem?_eq_getElem h)⟩
/-- no code begins another -/
theorem codes_apart {ns : List Int} (h : 1 ≤ ns.length) {i j : Nat} (hi : i < ns.length) (hj : j < ns.length) (hij : i ≠ j) : ¬ wayL ns i <+: wayL ns j := by
  have key := back_codes h (fun left _ => ∀ p q, p ∈ left → q ∈ left → p.2 ≠ q.2 → ¬ wayL ns p.2 <+: wayL ns q.2) (fun w x _ p q hp hq hpq => by
    rw [List.mem_singleton] at hp hq
    rw [hp, hq] at hpq
    exact absurd rfl hpq) (fun nx left r a b rows e ok wa wb hn _ hl ih p q hp hq hpq hpre => by
    have nr : ∀ x, x ∈ r → x.2 ≠ nx := fun x hx => by
      have := ok.lt x ((isort_perm left).mem_iff.mp (by rw [e]; exact List.mem_cons_of_mem _ (List.mem_cons_of_mem _ hx)))
      omega
    have mr : ∀ x, x ∈ r → x ∈ r ++ [(a.1 + b.1, nx)] := fun x hx => List.mem_append_left _ hx
    have mn : (a.1 + b.1, nx) ∈ r ++ [(a.1 + b.1, nx)] := List.mem_append_right _ (List.mem_singleton.mpr rfl)
    -- the new node's way begins both
    have up : ∀ (x : Node) (c : Nat), x ∈ r → ¬ (wayL ns nx ++ [c]) <+: wayL ns x.2 := fun x c hx z => ih _ x mn (mr x hx) (Ne.symm (nr x hx)) ((List.prefix_append _ _).trans z)
    have dn : ∀ (x : Node) (c : Nat), x ∈ r → ¬ wayL ns x.2 <+: (wayL ns nx ++ [c]) := fun x c hx z => by
      rcases List.prefix_concat_iff.mp z with z | z
      · exact up x c hx (z ▸ List.prefix_refl _)
      · exact ih x _ (mr x hx) mn (nr x hx) z
    have two : ∀ c d : Nat, c ≠ d → ¬ (wayL ns nx ++ [c]) <+: (wayL ns nx ++ [d]) := fun c d hcd z => by
      have z := (List.prefix_append_right_inj _).mp z
      obtain ⟨t, ht⟩ := z
      exact hcd (List.cons.inj ht).1
    rcases mem_left e hp with rfl | rfl | hp
    · rcases mem_left e hq with rfl | rfl | hq
      · exact hpq rfl
      · rw [wa, wb] at hpre; exact two _ _ (by decide) hpre
      · rw [wa] at hpre; exact up q _ hq hpre
    · rcases mem_left e hq with rfl | rfl | hq
      · rw [wa, wb] at hpre; exact two _ _ (by decide) hpre
      · exact hpq rfl
      · rw [wb] at hpre; exact up q _ hq hpre
    · rcases mem_left e hq with rfl | rfl | hq
      · rw [wa] at hpre; exact dn p _ hp hpre
      · rw [wb] at hpre; exact dn p _ hp hpre
      · exact ih p q (mr p hp) (mr q hq) hpq hpre)
  obtain ⟨n, hn⟩ := node_at ns hi
  obtain ⟨m, hm⟩ := node_at ns hj
  exact key _ _ hn hm hij
theorem codes_bits {ns : List Int} (h : 1 ≤ ns.length) {i : Nat} (hi : i < ns.length) : (∀ c ∈ wayL ns i, c = 48 ∨ c = 49) ∧ (wayL ns i).length ≤ ns.length - 1 := by
  have key := back_codes h (fun left rows => ∀ p ∈ left, (∀ c ∈ wayL ns p.2, c = 48 ∨ c = 49) ∧ (wayL ns p.2).length ≤ rows.length) (fun w x hx p hp => by
    rw [List.mem_singleton] at hp
    rw [hp, hx]
    exact ⟨fun c hc => absurd hc List.not_mem_nil, Nat.le_refl _⟩) (fun nx left r a b rows e ok wa wb hn _ hl ih p hp => by
    have one : ∀ d : Nat, (d = 48 ∨ d = 49) → (∀ c ∈ wayL ns nx ++ [d], c = 48 ∨ c = 49) ∧ (wayL ns nx ++ [d]).length ≤ rows.length + 1 := fun d hd => by
      have := ih (a.1 + b.1, nx) (List.mem_append_right _ (List.mem_singleton.mpr rfl))
      refine ⟨fun c hc => ?_, by rw [List.length_append]; exact Nat.add_le_add_right this.2 1⟩
      rcases List.mem_append.mp hc with q | q
      · exact this.1 c q
      · rw [List.mem_singleton.mp q]; exact hd
    rcases mem_left e hp with rfl | rfl | hp
    · rw [wa]; exact one 48 (.inl rfl)
    · rw [wb]; exact one 49 (.inr rfl)
    · have := ih p (List.mem_append_left _ hp)
      exact ⟨this.1, Nat.le_succ_of_le this.2⟩)
  obtain ⟨n, hn⟩ := node_at ns hi
  have := key _ hn
  rw [pairsL_len] at this
  exact this
theorem codes_full {ns : List Int} (h : 2 ≤ ns.length) {i : Nat} (hi : i < ns.length) : wayL ns i ≠ [] := fun e => by
  obtain ⟨j, hj, hne⟩ : ∃ j, j < ns.length ∧ i ≠ j := by
    by_cases h0 : i = 0
    · exact ⟨1, by omega, by omega⟩
    · exact ⟨0, by omega, h0⟩
  exact codes_apart (by omega) hi hj hne (by rw [e]; exact List.nil_prefix)
/-! ### what the codes take of all rows of bits; what they cost -/
theorem perm_sum {l m : List Int} (p : l.Perm m) : l.sum = m.sum := by
  induction p with
  | nil => rfl
  | cons x _ ih => rw [List.sum_cons, List.sum_cons, ih]
  | swap x y l => rw [List.sum_cons, List.sum_cons, List.sum_cons, List.sum_cons]; omega
  | trans _ _ h1 h2 => rw [h1, h2]
def part (L : Nat) (w : Word) : Int := ((2 ^ (L - w.length) : Nat) : Int)
theorem kraft_nodes {ns : List Int} (h : 1 ≤ ns.length) (L : Nat) : (∀ p ∈ nodesOf ns, (wayL ns p.2).length ≤ L) → ((nodesOf ns).map fun p => part L (wayL ns p.2)).sum = ((2 ^ L : Nat) : Int) := by
  refine back_codes h (fun left _ => (∀ p ∈ left, (wayL ns p.2).length ≤ L) → (left.map fun p => part L (wayL ns p.2)).sum = ((2 ^ L : Nat) : Int)) (fun w x hx _ => ?_) (fun nx left r a b rows e ok wa wb hn _ hl ih hL => ?_)
  · show part L (wayL ns x) + 0 = _
    rw [hx, Int.add_zero]
    rfl
  · have ha := hL a ((isort_perm left).mem_iff.mp (by rw [e]; exact List.mem_cons_self))
    rw [wa, List.length_append, List.length_singleton] at ha
    have ih' := ih fun p hp => by
      rcases List.mem_append.mp hp with q | q
      · exact hL p ((isort_perm left).mem_iff.mp (by rw [e]; exact List.mem_cons_of_mem _ (List.mem_cons_of_mem _ q)))
      · rw [List.mem_singleton.mp q]
        show (wayL ns nx).length ≤ L
        omega
    rw [← perm_sum ((isort_perm left).map fun p => part L (wayL ns p.2)), e, List.map_cons, List.map_cons, List.sum_cons, List.sum_cons]
    rw [List.map_append, List.sum_append] at ih'
    have two : ∀ c : Nat, part L (wayL ns nx) = part L (wayL ns nx ++ [c]) + part L (wayL ns nx ++ [c]) := fun c => by
      unfold part
      rw [List.length_append, List.length_singleton, show L - (wayL ns nx).length = (L - ((wayL ns nx).length + 1)) + 1 by omega, Nat.pow_succ]
      omega
    have e1 : ([(a.1 + b.1, nx)].map fun p : Node => part L (wayL ns p.2)).sum = part L (wayL ns nx) := by show part L (wayL ns nx) + 0 = _; rw [Int.add_zero]
    rw [e1, two 48] at ih'
    rw [wa, wb, ← ih']
    have e2 : part L (wayL ns nx ++ [49]) = part L (wayL ns nx ++ [48]) := by unfold part; rw [List.length_append, List.length_append] <;> rfl
    rw [e2]
    omega
theorem nodes_map {α : Type} (ns : List Int) (f : Int → Word → α) : (nodesOf ns).map (fun p => f p.1 (wayL ns p.2)) = List.zipWith f ns (codesL ns) := by
  refine List.ext_getElem? fun i => ?_
  rw [List.getElem?_map, List.getElem?_zipWith]
  by_cases hi : i < ns.length
  · unfold nodesOf
    rw [List.getElem?_zipIdx, codesL_get hi, List.getElem?_eq_getElem hi]
    show some (f _ (wayL ns (0 + i))) = _
    rw [Nat.zero_add]
  · rw [List.getElem?_eq_none (by rw [nodesOf_len]; omega), List.getElem?_eq_none (show ns.length ≤ i by omega)]
    rfl
theorem zipWith_right {α : Type} {f : Word → α} : ∀ {ns : List Int} {ws : List Word}, ns.length = ws.length → List.zipWith (fun _ w => f w) ns ws = ws.map f
  | [], [], _ => rfl
  | n :: ns, w :: ws, h => by
    show f w :: _ = f w :: _
    rw [zipWith_right (by simpa using h)]
theorem kraft {ns : List Int} (h : 1 ≤ ns.length) {L : Nat} (hL : ∀ w ∈ codesL ns, w.length ≤ L) : ((codesL ns).map (part L)).sum = ((2 ^ L : Nat) : Int) := by
  have e := nodes_map ns fun _ w => part L w
  rw [zipWith_right (codesL_len ns).symm] at e
  rw [← e]
  refine kraft_nodes h L fun p hp => ?_
  obtain ⟨i, hi, q⟩ := List.getElem_of_mem hp
  rw [nodesOf_len] at hi
  have q' : (nodesOf ns)[i]? = some p := by rw [List.getElem?_eq_getElem (by rw [nodesOf_len]; exact hi), q]
  unfold nodesOf at q'
  rw [List.getElem?_zipIdx, List.getElem?_eq_getElem hi] at q'
  have e2 : p.2 = i := by
    have := Option.some.inj q'
    rw [← this]
    show 0 + i = i
    rw [Nat.zero_add]
  rw [e2]
  exact hL _ (List.mem_of_getElem? (codesL_get hi))
/-- the weights as the law walks them: those of the shares, then of each pair -/
def weightsL : List Int → List (Nat × Nat) → List Int
  | W, [] => W
  | W, (a, b) :: rows => weightsL (W ++ [W.getD a 0 + W.getD b 0]) rows
def costL (ns : List Int) : Int := (List.zipWith (fun n (w : Word) => n * (w.length : Int)) ns (codesL ns)).sum
/-- the weights stand where the nodes say -/
def WAt (W : List Int) (nx : Nat) (left : List Node) : Prop := W.length = nx ∧ ∀ p ∈ left, W[p.2]? = some p.1
theorem WAt.next {W : List Int} {nx : Nat} {left r : List Node} {a b : Node} (h : WAt W nx left) (e : isort left = a :: b :: r) : W.getD a.2 0 = a.1 ∧ W.getD b.2 0 = b.1 ∧ WAt (W ++ [W.getD a.2 0 + W.getD b.2 0]) (nx + 1) (r ++ [(a.1 + b.1, nx)]) := by
  have mem : ∀ x, x ∈ a :: b :: r → x ∈ left := fun x hx => (isort_perm left).mem_iff.mp (by rw [e]; exact hx)
  have ga : W.getD a.2 0 = a.1 := by rw [List.getD_eq_getElem?_getD, h.2 a (mem a List.mem_cons_self)]; rfl
  have gb : W.getD b.2 0 = b.1 := by rw [List.getD_eq_getElem?_getD, h.2 b (mem b (List.mem_cons_of_mem _ List.mem_cons_self))]; rfl
  refine ⟨ga, gb, by rw [List.length_append, h.1]; rfl, fun p hp => ?_⟩
  rcases List.mem_append.mp hp with q | q
  · have z := h.2 p (mem p (List.mem_cons_of_mem _ (List.mem_cons_of_mem _ q)))
    rw [List.getElem?_append_left (List.getElem?_eq_some_iff.mp z).1]
    exact z
  · rw [List.mem_singleton.mp q, ga, gb]
    show (W ++ [a.1 + b.1])[nx]? = _
    rw [← h.1, List.getElem?_append_right (Nat.le_refl _), Nat.sub_self]
    rfl
theorem weightsL_len : ∀ (rows : List (Nat × Nat)) (W : List Int), (weightsL W rows).length = W.length + rows.length
  | [], _ => rfl
  | (a, b) :: rows, W => by
    show (weightsL (W ++ [_]) rows).length = _
    rw [weightsL_len rows, List.length_append, List.length_cons]
    simp
    omega
theorem weightsL_drop : ∀ (rows : List (Nat × Nat)) (W : List Int) (k : Nat), k ≤ W.length → (weightsL W rows).drop k = W.drop k ++ (weightsL W rows).drop W.length
  | [], W, k, h => by
    show W.drop k = W.drop k ++ W.drop W.length
    rw [List.drop_length, List.append_nil]
  | (a, b) :: rows, W, k, h => by
    show (weightsL (W ++ [_]) rows).drop k = W.drop k ++ (weightsL (W ++ [_]) rows).drop W.length
    rw [weightsL_drop rows _ k (by rw [List.length_append]; omega), weightsL_drop rows _ W.length (by rw [List.length_append]; omega), List.drop_append_of_le_length h, List.drop_append_of_le_length (Nat.le_refl _), List.drop_length, List.append_assoc, List.nil_append]
theorem cost_nodes {ns : List Int} (h : 1 ≤ ns.length) : ∀ W, WAt W ns.length (nodesOf ns) → ((nodesOf ns).map fun p => p.1 * ((wayL ns p.2).length : Int)).sum = ((weightsL W (pairsL ns)).drop ns.length).sum := by
  have key := back_codes h (fun left rows => ∀ nx W, nx + rows.length = ns.length + (pairsL ns).length → WAt W nx left → (left.map fun p => p.1 * ((wayL ns p.2).length : Int)).sum = ((weightsL W rows).drop nx).sum) (fun w x hx nx W _ hW => by
    rw [show weightsL W [] = W from rfl, ← hW.1, List.drop_length]
    show w * ((wayL ns x).length : Int) + 0 = 0
    rw [hx, Int.add_zero]
    exact Int.mul_zero w) (fun nx left r a b rows e ok wa wb hn _ hl ih nx' W hx hW => ?_)
  · exact fun W hW => key ns.length W rfl hW
  · have hnx : nx' = nx := by rw [List.length_cons] at hx; omega
    subst hnx
    obtain ⟨ga, gb, hW'⟩ := hW.next e
    have ih' := ih (nx' + 1) _ (by omega) hW'
    rw [List.map_append, List.sum_append] at ih'
    rw [← perm_sum ((isort_perm left).map fun p => p.1 * ((wayL ns p.2).length : Int)), e, List.map_cons, List.map_cons, List.sum_cons, List.sum_cons]
    show _ = ((weightsL (W ++ [W.getD a.2 0 + W.getD b.2 0]) rows).drop nx').sum
    rw [weightsL_drop rows _ nx' (by rw [List.length_append, hW.1]; omega), List.length_append, hW.1, List.length_singleton, List.sum_append]
    rw [← ih', ← hW.1, List.drop_append_of_le_length (Nat.le_refl _), List.drop_length, List.nil_append, ga, gb]
    rw [wa, wb, List.length_append, List.length_append, List.length_singleton, List.length_singleton]
    have e1 : ([(a.1 + b.1, nx')].map fun p : Node => p.1 * ((wayL ns p.2).length : Int)).sum = (a.1 + b.1) * ((wayL ns nx').length : Int) := by show (a.1 + b.1) * ((wayL ns nx').length : Int) + 0 = _; rw [Int.add_zero]
    rw [hW.1, e1]
    have e2 : ∀ (z : Int) (k : Nat), z * ((k + 1 : Nat) : Int) = z * (k : Int) + z := fun z k => by rw [Int.natCast_succ, Int.mul_add, Int.mul_one]
    rw [e2, e2, Int.add_mul, List.sum_singleton]
    omega
theorem wat_start (ns : List Int) : WAt ns ns.length (nodesOf ns) := ⟨rfl, fun p hp => by
  obtain ⟨i, hi, q⟩ := List.getElem_of_mem hp
  rw [nodesOf_len] at hi
  have q' : (nodesOf ns)[i]? = some p := by rw [List.getElem?_eq_getElem (by rw [nodesOf_len]; exact hi), q]
  unfold nodesOf at q'
  rw [List.getElem?_zipIdx, List.getElem?_eq_getElem hi] at q'
  have z := Option.some.inj q'
  rw [← z]
  show ns[0 + i]? = some ns[i]
  rw [Nat.zero_add]
  exact List.getElem?_eq_getElem hi⟩
theorem cost_is {ns : List Int} (h : 1 ≤ ns.length) : costL ns = ((weightsL ns (pairsL ns)).drop ns.length).sum := by
  unfold costL
  rw [← nodes_map ns fun n (w : Word) => n * (w.length : Int)]
  exact cost_nodes h ns (wat_start ns)
/-! ### gone from the top -/
/-- one step of the law's walk; -1 where it leaves the pairs -/
def goStep (rows : List (Nat × Nat)) (n : Nat) (node : Int) (c : Nat) : Int :=
  if node < (n : Int) then -1 else if c = 48 then ((rows.getD (node.toNat - n) (0, 0)).1 : Int) else ((rows.getD (node.toNat - n) (0, 0)).2 : Int)
/-- nodes along the way -/
def Goes (rows : List (Nat × Nat)) (n : Nat) : Int → Word → Int → Prop
  | x, [], y => x = y
  | x, c :: w, y => (n : Int) ≤ x ∧ x < (n : Int) + (rows.length : Int) ∧ (c = 48 ∨ c = 49) ∧ Goes rows n (goStep rows n x c) w y
theorem goes_app {rows : List (Nat × Nat)} {n : Nat} : ∀ {w v : Word} {x y z : Int}, Goes rows n x w y → Goes rows n y v z → Goes rows n x (w ++ v) z
  | [], _, _, _, _, h1, h2 => by
    have e : _ = _ := h1
    rw [e]
    exact h2
  | _ :: _, _, _, _, _, h1, h2 => ⟨h1.1, h1.2.1, h1.2.2.1, goes_app h1.2.2.2 h2⟩
theorem codes_go {ns : List Int} (h : 1 ≤ ns.length) {i : Nat} (hi : i < ns.length) : Goes (pairsL ns) ns.length ((ns.length : Int) + ((pairsL ns).length : Int) - 1) (wayL ns i) (i : Int) := by
  have key := back_codes h (fun left rows => (∀ w x, left = [(w, x)] → rows = [] → x = ns.length + (pairsL ns).length - 1) → ∀ p ∈ left, Goes (pairsL ns) ns.length ((ns.length : Int) + ((pairsL ns).length : Int) - 1) (wayL ns p.2) (p.2 : Int)) (fun w x hx hone p hp => by
    rw [List.mem_singleton.mp hp, hx]
    have := hone w x rfl rfl
    show _ = ((x : Nat) : Int)
    omega) (fun nx left r a b rows e ok wa wb hn q hl ih _ p hp => by
    have ih' := ih fun w x e1 e2 => by
      subst e2
      cases r with
      | nil =>
        rw [List.nil_append] at e1
        have := (Prod.mk.inj (List.cons.inj e1).1).2
        rw [List.length_nil] at hl
        omega
      | cons c r => simp at e1
    have hN := ih' (a.1 + b.1, nx) (List.mem_append_right _ (List.mem_singleton.mpr rfl))
    have hlt : nx - ns.length < (pairsL ns).length := (List.getElem?_eq_some_iff.mp q).1
    have g : (pairsL ns).getD (((nx : Nat) : Int).toNat - ns.length) (0, 0) = (a.2, b.2) := by rw [Int.toNat_natCast, List.getD_eq_getElem?_getD, q]; rfl
    rcases mem_left e hp with rfl | rfl | hp
    · rw [wa]
      refine goes_app hN ⟨by show (ns.length : Int) ≤ ((nx : Nat) : Int); omega, by show ((nx : Nat) : Int) < _; omega, .inl rfl, ?_⟩
      show goStep (pairsL ns) ns.length ((nx : Nat) : Int) 48 = _
      unfold goStep
      rw [if_neg (by omega), if_pos rfl, g]
    · rw [wb]
      refine goes_app hN ⟨by show (ns.length : Int) ≤ ((nx : Nat) : Int); omega, by show ((nx : Nat) : Int) < _; omega, .inr rfl, ?_⟩
      show goStep (pairsL ns) ns.length ((nx : Nat) : Int) 49 = _
      unfold goStep
      rw [if_neg (by omega), if_neg (by decide), g]
    · exact ih' p (List.mem_append_left _ hp))
  obtain ⟨n, hn⟩ := node_at ns hi
  refine key (fun w x e1 e2 => ?_) _ hn
  have l := congrArg List.length e1
  rw [nodesOf_len] at l
  have l2 : ns.length = 1 := l
  have e3 := (nodesOf_at h).one (by rw [nodesOf_len]; exact l2) (w, x) (by rw [e1]; exact List.mem_singleton.mpr rfl)
  rw [e2]
  simp at e3 ⊢
  omega
/-! ### pairs in the heap -/
/-- tuples of a weight and a number -/
def NodesAt (H : Hp) (xs : List V) (left : List Node) : Prop := Paired (fun x (nd : Node) => ∃ t, x = V.ref t ∧ H t = some (.tup [.int nd.1, .int (nd.2 : Int)])) xs left
/-- tuples of two numbers -/
def RowsIn (H : Hp) (xs : List V) (rows : List (Nat × Nat)) : Prop := Paired (fun x (r : Nat × Nat) => ∃ t, x = V.ref t ∧ H t = some (.tup [.int (r.1 : Int), .int (r.2 : Int)])) xs rows
def RowsAt (H : Hp) (p : Addr) (rows : List (Nat × Nat)) : Prop := ∃ xs, H p = some (.lst xs) ∧ RowsIn H xs rows
theorem NodesAt.same {H H' : Hp} {xs : List V} {left : List Node} (h : NodesAt H xs left) (s : Same H H') : NodesAt H' xs left := Paired.mapP h fun _ _ ⟨t, e, q⟩ => ⟨t, e, s _ _ q⟩
theorem RowsIn.same {H H' : Hp} {xs : List V} {rows : List (Nat × Nat)} (h : RowsIn H xs rows) (s : Same H H') : RowsIn H' xs rows := Paired.mapP h fun _ _ ⟨t, e, q⟩ => ⟨t, e, s _ _ q⟩
theorem RowsAt.same {H H' : Hp} {p : Addr} {rows : List (Nat × Nat)} (h : RowsAt H p rows) (s : Same H H') : RowsAt H' p rows := let ⟨xs, e, r⟩ := h; ⟨xs, s _ _ e, r.same s⟩
theorem tup_ne {H : Hp} {t l : Addr} {xs ys zs : List V} (h : H t = some (.tup xs)) (hl : H l = some (.lst ys)) : (upd H l (.lst zs)) t = some (.tup xs) := by
  rw [upd_ne (ne_of h hl (by intro q; cases q))]
  exact h
theorem NodesAt.mut {H : Hp} {xs ys zs : List V} {l : Addr} {left : List Node} (h : NodesAt H xs left) (hl : H l = some (.lst ys)) : NodesAt (upd H l (.lst zs)) xs left := Paired.mapP h fun _ _ ⟨t, e, q⟩ => ⟨t, e, tup_ne q hl⟩
theorem RowsIn.mut {H : Hp} {xs ys zs : List V} {l : Addr} {rows : List (Nat × Nat)} (h : RowsIn H xs rows) (hl : H l = some (.lst ys)) : RowsIn (upd H l (.lst zs)) xs rows := Paired.mapP h fun _ _ ⟨t, e, q⟩ => ⟨t, e, tup_ne q hl⟩
theorem paired_at {α β : Type} {F : α → β → Prop} : ∀ {l : List α} {m : List β}, Paired F l m → ∀ {i : Nat} {b : β}, m[i]? = some b → ∃ a, l[i]? = some a ∧ F a b
  | _, _, .nil, i, b, h => by simp at h
  | _, _, .cons f r, 0, b, h => by cases h; exact ⟨_, rfl, f⟩
  | _, _, .cons f r, i + 1, b, h => paired_at r (i := i) h
theorem paired_at' {α β : Type} {F : α → β → Prop} : ∀ {l : List α} {m : List β}, Paired F l m → ∀ {i : Nat} {a : α}, l[i]? = some a → ∃ b, m[i]? = some b ∧ F a b
  | _, _, .nil, i, b, h => by simp at h
  | _, _, .cons f r, 0, b, h => by cases h; exact ⟨_, rfl, f⟩
  | _, _, .cons f r, i + 1, b, h => paired_at' r (i := i) h
theorem paired_of {α β : Type} {F : α → β → Prop} : ∀ {l : List α} {m : List β}, l.length = m.length → (∀ (i : Nat) (a : α) (b : β), l[i]? = some a → m[i]? = some b → F a b) → Paired F l m
  | [], [], _, _ => .nil
  | a :: l, b :: m, h, f => .cons (f 0 a b rfl rfl) (paired_of (by simpa using h) fun i x y h1 h2 => f (i + 1) x y h1 h2)
/-- what a tuple of two numbers at that place says -/
def keyOf (H : Hp) (x : V) : Int × Int := match x with
  | .ref t => match H t with
    | some (.tup [.int a, .int b]) => (a, b)
    | _ => (0, 0)
  | _ => (0, 0)
def nodeI (p : Node) : Int × Int := (p.1, (p.2 : Int))
theorem keys_of {H : Hp} : ∀ {xs : List V} {left : List Node}, NodesAt H xs left → xs.map (keyOf H) = left.map nodeI
  | _, _, .nil => rfl
  | _, _, .cons ⟨t, e, h⟩ r => by
    rw [List.map_cons, List.map_cons, keys_of r, e]
    congr 1
    unfold keyOf
    simp only [h]
    rfl
theorem nodeI_inj {p q : Node} (h : nodeI p = nodeI q) : p = q := by
  have h1 := (Prod.mk.inj h).1
  have h2 := (Prod.mk.inj h).2
  exact Prod.ext h1 (by omega)
/-- a list of pairs of ints in the order of ltP, the same pairs: it is the sorted one -/
theorem sorted_keys {l : List (Int × Int)} {left : List Node} (p : l.Perm (left.map nodeI)) (s : l.Pairwise fun x y => SrtO.lexB y x = false) : l = (isort left).map nodeI := by
  refine List.Perm.eq_of_pairwise (le := fun x y => SrtO.lexB y x = false) (fun a b _ _ h1 h2 => ?_) s ?_ (p.trans ((isort_perm left).map nodeI).symm)
  · have q1 := SrtO.lexB_no.mp h1
    have q2 := SrtO.lexB_no.mp h2
    exact Prod.ext (by omega) (by omega)
  · rw [List.pairwise_map]
    refine (isort_sorted left).imp fun {a b} h => ?_
    rw [nle_iff] at h
    refine SrtO.lexB_no.mpr ?_
    show ¬ (b.1 < a.1 ∨ (b.1 = a.1 ∧ (b.2 : Int) < (a.2 : Int)))
    omega
theorem w_sorted {K : PySem.W.Frag} {H : Hp} {Q : VK} {l : Addr} {xs : List V} {left : List Node} (h : SqL K H l xs) (hn : NodesAt H xs left)
    (q : ∀ p ys H', Same H H' → H p = none → H' p = some (.lst ys) → NodesAt H' ys (isort left) → Q (.ref p) H') : rSortedPO K [.ref l] H Q := by
  have inT : ∀ x ∈ xs, ∃ t, x = V.ref t ∧ H t = some (.tup [.int (keyOf H x).1, .int (keyOf H x).2]) := fun x hx => by
    obtain ⟨i, hi, e⟩ := List.getElem_of_mem hx
    obtain ⟨nd, _, t, rfl, ht⟩ := paired_at' hn (i := i) (by rw [List.getElem?_eq_getElem hi, e])
    refine ⟨t, rfl, ?_⟩
    unfold keyOf
    simp only [ht]
  refine ⟨l, xs, keyOf H, rfl, h, inT, fun ys p hs hst hp => ?_⟩
  have hk : ys.map (keyOf H) = (isort left).map nodeI := by
    refine sorted_keys (by rw [← keys_of hn]; exact hst.perm.map _) ?_
    rw [List.pairwise_map]
    exact hs
  have hl : ys.length = (isort left).length := by
    have := congrArg List.length hk
    simpa using this
  have nn : NodesAt H ys (isort left) := paired_of hl fun i y nd h1 h2 => by
    obtain ⟨t, rfl, ht⟩ := inT y (hst.perm.mem_iff.mp (List.mem_of_getElem? h1))
    have z := congrArg (fun l => l[i]?) hk
    simp only [List.getElem?_map, h1, h2, Option.map_some] at z
    rw [Option.some.inj z] at ht
    exact ⟨t, rfl, ht⟩
  exact q p ys _ (same_new0 hp) hp upd_same (nn.same (same_new0 hp))
/-- t > u of two tuples of ints -/
def rGtT (K : PySem.W.Frag) : R2 := fun x y H Q => ∃ (a b : Addr) (ns ms : List Int), x = .ref a ∧ y = .ref b ∧ SqT K H a (ns.map V.int) ∧ SqT K H b (ms.map V.int) ∧
  Q (.bl (Ob.lexAt (fun j => decide (ns.getD j 0 = ms.getD j 0)) (fun j => decide (ms.getD j 0 < ns.getD j 0)) (decide (ns.length > ms.length)) 0 (min ns.length ms.length))) H
theorem op_gtTK {X : Cx} {K : PySem.W.Frag} (hu : X.A.units < cLine) (hK : X.K = K := by rfl) : OpR X (compareOp .Gt) (rGtT K) := by
  subst hK
  intro pins s σ H x y v u Q I rx ry h
  obtain ⟨a, b, ns, ms, rfl, rfl, ha, hb, q⟩ := h
  cases rx
  cases ry
  obtain ⟨its, r1, p1, _⟩ := I.tuple ha
  obtain ⟨its2, r2, p2, _⟩ := I.tuple hb
  have i1 : IntsAre its ns := Vals.ints r1
  have i2 : IntsAre its2 ms := Vals.ints r2
  have e1 : its.toArray.size = ns.length := by rw [List.size_toArray]; exact i1.length
  have e2 : its2.toArray.size = ms.length := by rw [List.size_toArray]; exact i2.length
  have at1 : ∀ j (h1 : j < its.toArray.size), ∃ t, its.toArray[j] = .int (ns.getD j 0) t := fun j h1 => PyProof.Rows.IntsAre.int_at i1 _ _ (by simp at h1; simp [h1])
  have at2 : ∀ j (h1 : j < its2.toArray.size), ∃ t, its2.toArray[j] = .int (ms.getD j 0) t := fun j h1 => PyProof.Rows.IntsAre.int_at i2 _ _ (by simp at h1; simp [h1])
  have R := Ob.RcOp.tuples_gt (A := X.A) (s := s) (e := fun j => decide (ns.getD j 0 = ms.getD j 0)) (r := fun j => decide (ms.getD j 0 < ns.getD j 0)) p1 p2 hu (fun j h1 h2 => by
    obtain ⟨t, et⟩ := at1 j h1
    obtain ⟨t', et'⟩ := at2 j h2
    rw [et, et']
    have z : (ns.getD j 0 == ms.getD j 0) = decide (ns.getD j 0 = ms.getD j 0) := by
      by_cases q : ns.getD j 0 = ms.getD j 0
      · rw [decide_eq_true q]; exact beq_iff_eq.mpr q
      · rw [decide_eq_false q]; exact beq_eq_false_iff_ne.mpr q
    rw [← z]
    exact SeqAt.EqAt.int_int _ _ _ _) (fun j h1 h2 _ => by
    obtain ⟨t, et⟩ := at1 j h1
    obtain ⟨t', et'⟩ := at2 j h2
    rw [et, et']
    exact Ob.RcOp.gt_int _ _ _ _)
  rw [e1, e2] at R
  have z : wpAny (model X.prog X.w) X.A (compareOp .Gt (.ref a) (.ref b)) (EP X pins σ Q) X.xe s := R X.prog X.w X.xe (EP X pins σ Q) ⟨.bl _, H, I, rfl, q⟩
  exact z
theorem w_gtT {K : PySem.W.Frag} {H : Hp} {Q : VK} {p q : Addr} {a b c d : Int} (h1 : SqT K H p [.int a, .int b]) (h2 : SqT K H q [.int c, .int d]) (k : Q (.bl (decide (c < a ∨ (c = a ∧ d < b)))) H) : rGtT K (.ref p) (.ref q) H Q := by
  refine ⟨p, q, [a, b], [c, d], rfl, rfl, h1, h2, ?_⟩
  have e : Ob.lexAt (fun j => decide ([a, b].getD j 0 = [c, d].getD j 0)) (fun j => decide ([c, d].getD j 0 < [a, b].getD j 0)) (decide ([a, b].length > [c, d].length)) 0 (min [a, b].length [c, d].length) = decide (c < a ∨ (c = a ∧ d < b)) := by
    show (if decide (a = c) = true then (if decide (b = d) = true then false else decide (d < b)) else decide (c < a)) = _
    by_cases h : a = c
    · rw [if_pos (decide_eq_true h)]
      by_cases g : b = d
      · rw [if_pos (decide_eq_true g)]
        exact (decide_eq_false (by omega)).symm
      · rw [if_neg (by simpa using g)]
        exact decide_eq_decide.mpr (by omega)
    · rw [if_neg (by simpa using h)]
      exact decide_eq_decide.mpr (by omega)
  rw [e]
  exact k
theorem w_ltT {K : PySem.W.Frag} {H : Hp} {Q : VK} {p q : Addr} {a b c d : Int} (h1 : SqT K H p [.int a, .int b]) (h2 : SqT K H q [.int c, .int d]) (k : Q (.bl (decide (a < c ∨ (a = c ∧ b < d)))) H) : rLtT K (.ref p) (.ref q) H Q := by
  refine ⟨p, q, [a, b], [c, d], rfl, rfl, h1, h2, ?_⟩
  have e : HT.lexLt [a, b] [c, d] = decide (a < c ∨ (a = c ∧ b < d)) := by
    rw [HT.lexLt_cons, HT.lexLt_cons, HT.lexLt_nil_nil]
    by_cases h : a = c
    · rw [if_pos h]
      by_cases g : b = d
      · rw [if_pos g]
        exact (decide_eq_false (by omega)).symm
      · rw [if_neg g]
        exact decide_eq_decide.mpr (by omega)
    · rw [if_neg h]
      exact decide_eq_decide.mpr (by omega)
  rw [e]
  exact k
/-! ### lists of texts -/
def wordsV (ws : List Word) : List V := ws.map fun w => V.str (S w)
theorem wordsV_len (ws : List Word) : (wordsV ws).length = ws.length := List.length_map _
theorem wordsV_get {ws : List Word} {i : Nat} {x : V} (h : (wordsV ws)[i]? = some x) : ∃ w, ws[i]? = some w ∧ x = .str (S w) := by
  unfold wordsV at h
  rw [List.getElem?_map] at h
  cases e : ws[i]? with
  | none => rw [e] at h; cases h
  | some w => rw [e] at h; exact ⟨w, rfl, (Option.some.inj h).symm⟩
theorem wordsV_at {ws : List Word} {i : Nat} (h : i < ws.length) : (wordsV ws)[i]? = some (.str (S (ws.getD i []))) := by
  unfold wordsV
  rw [List.getElem?_map, List.getElem?_eq_getElem h, List.getD_eq_getElem?_getD, List.getElem?_eq_getElem h]
  rfl
theorem wordsV_set (ws : List Word) (i : Nat) (w : Word) : (wordsV ws).set i (.str (S w)) = wordsV (ws.set i w) := by
  unfold wordsV
  rw [List.map_set]
theorem wordsV_take (ws : List Word) (n : Nat) : wordsV (ws.take n) = (wordsV ws).take n := List.map_take
theorem codesL_mem {ns : List Int} {w : Word} (h : w ∈ codesL ns) : ∃ i, i < ns.length ∧ w = wayL ns i := by
  obtain ⟨i, hi, e⟩ := List.getElem_of_mem h
  rw [codesL_len] at hi
  have q := codesL_get hi
  rw [List.getElem?_eq_getElem (by rw [codesL_len]; exact hi), e] at q
  exact ⟨i, hi, Option.some.inj q⟩
end Sp
/-! ## Instances -/
namespace Sp
open PySem PySem.Spec PyProof.Rows L2
/-- all but p stands as it was -/
def SameP (p : Addr) (H H' : Hp) : Prop := ∀ a o, a ≠ p → H a = some o → H' a = some o
theorem SameP.refl {p : Addr} {H : Hp} : SameP p H H := fun _ _ _ h => h
theorem SameP.trans {p : Addr} {H H1 H2 : Hp} (s : SameP p H H1) (t : SameP p H1 H2) : SameP p H H2 := fun a o n h => t a o n (s a o n h)
theorem _root_.L2.Same.toP {p : Addr} {H H' : Hp} (s : Same H H') : SameP p H H' := fun a o _ h => s a o h
theorem SameP.same {p : Addr} {H0 H H' : Hp} (s : SameP p H H') (e : Same H0 H) (n : H0 p = none) : Same H0 H' := fun a o h => s a o (ne_of_none h n) (e a o h)
theorem SameP.at {p a : Addr} {H H' : Hp} {o : HO} (s : SameP p H H') (h : H a = some o) (n : a ≠ p) : H' a = some o := s a o n h
theorem SameP.at' {p a : Addr} {H H' : Hp} {o o' : HO} (s : SameP p H H') (h : H a = some o) (hp : H p = some o') (n : o ≠ o') : H' a = some o := s a o (fun e => n (Option.some.inj ((e ▸ h : H p = some o).symm.trans hp))) h
theorem SameP.free {p a : Addr} {H H' : Hp} (s : SameP p H H') (h : H' a = none) (n : a ≠ p) : H a = none := by
  cases e : H a with
  | none => rfl
  | some o => rw [s a o n e] at h; cases h
theorem sameP_upd {p : Addr} {H : Hp} {o : HO} : SameP p H (upd H p o) := fun a u n e => by rw [upd_ne n]; exact e
theorem lk_eq {f : Str} {x : V} {r : List (Str × V)} : ((f, x) :: r).lookup f = some x := by
  show (match f == f with | true => some x | false => r.lookup f) = _
  rw [beq_self_eq_true]
theorem lk_ne {f g : Str} {x : V} {r : List (Str × V)} {o : Option V} (h : f ≠ g) (q : r.lookup f = o) : ((g, x) :: r).lookup f = o := by
  show (match f == g with | true => some x | false => r.lookup f) = _
  rw [beq_eq_false_iff_ne.mpr h]
  exact q
theorem lk_nil {f : Str} : ([] : List (Str × V)).lookup f = none := rfl
theorem pf_nil {f : Str} {v : V} : putF f v [] = [(f, v)] := rfl
theorem pf_eq {f : Str} {v x : V} {r : List (Str × V)} : putF f v ((f, x) :: r) = (f, v) :: r := by
  show (if f = f then (f, v) :: r else (f, x) :: putF f v r) = _
  rw [if_pos rfl]
theorem pf_ne {f g : Str} {v x : V} {r r' : List (Str × V)} (h : g ≠ f) (q : putF f v r = r') : putF f v ((g, x) :: r) = (g, x) :: r' := by
  show (if g = f then (g, v) :: r else (g, x) :: putF f v r) = _
  rw [if_neg h, q]
section
variable {K : PySem.W.Frag} {σ : L2.St} {H H1 : Hp} {ta tb tc te : TE} {x y v : V} {Q : VK} {D : Ends}
theorem w_sfld1 {f : Str} {a C dx : Addr} {fs fs' : List (Str × V)} {R : Hp → Prop} (h : H a = some (.ins C dx fs)) (c : Cls K C) (n : NoAttr K C f) (l : fs.length < 1000) (e : putF f y fs = fs') (q : ∀ H', SameP a H H' → H' a = some (.ins C dx fs') → R H') :
    ∃ a' C dx fs, V.ref a = .ref a' ∧ H a' = some (.ins C dx fs) ∧ Cls K C ∧ NoAttr K C f ∧ fs.length < 1000 ∧ R (upd H a' (.ins C dx (putF f y fs))) := ⟨a, C, dx, fs, rfl, h, c, n, l, q _ sameP_upd (by rw [upd_same, e])⟩
def MadeQ (C : Addr) (sp : L2.Sp) (E : XK) (vs : List V) (Q : VK) (H1 : Hp) : Prop := ∀ x dx, H1 x = none → H1 dx = none → dx ≠ x → sp (.ref x :: vs) (upd (upd H1 dx (.own x)) x (.ins C dx [])) (fun v H2 => v = .non ∧ Q (.ref x) H2) E
theorem w_make {C : Addr} {sp : L2.Sp} {E : XK} {t : TA} (h : t σ H fun vs H1 => MadeQ C sp E vs Q H1) : tMake C sp [] E t σ H Q :=
  cast (congrArg (fun (k : List V → Hp → Prop) => t σ H k) (funext fun vs => funext fun H1 => by show MadeQ C sp E vs Q H1 = _; unfold MadeQ; rw [List.append_nil])) h
theorem w_made {C : Addr} {sp : L2.Sp} {E : XK} {vs : List V} (h : ∀ x dx H2, Same H H2 → H x = none → H2 x = some (.ins C dx []) → sp (.ref x :: vs) H2 (fun v H3 => v = .non ∧ Q (.ref x) H3) E) : MadeQ C sp E vs Q H := fun x dx hx hdx hn =>
  h x dx _ (fun a o e => by rw [upd_ne (ne_of_none e hx), upd_ne (ne_of_none e hdx)]; exact e) hx upd_same
def MethQ (C : Addr) (m : Str) (sp : L2.Sp) (E : XK) (t : TA) (σ : L2.St) (Q : VK) (x : V) (H1 : Hp) : Prop := ∃ a dx fs, x = .ref a ∧ H1 a = some (.ins C dx fs) ∧ fs.lookup m = none ∧ t σ H1 fun vs H2 => sp (x :: vs) H2 Q E
theorem w_meth {C : Addr} {m : Str} {sp : L2.Sp} {E : XK} {t : TA} (h : ta σ H fun x H1 => MethQ C m sp E t σ Q x H1) : tMeth C m sp [] E ta t σ H Q :=
  cast (congrArg (fun (k : V → Hp → Prop) => ta σ H k) (funext fun x => funext fun H1 => by show MethQ C m sp E t σ Q x H1 = _; unfold MethQ; simp only [List.append_nil])) h
theorem w_methd {C : Addr} {m : Str} {sp : L2.Sp} {E : XK} {t : TA} {a dx : Addr} {fs : List (Str × V)} (h : H a = some (.ins C dx fs)) (l : fs.lookup m = none) (q : t σ H fun vs H2 => sp (.ref a :: vs) H2 Q E) : MethQ C m sp E t σ Q (.ref a) H := ⟨a, dx, fs, rfl, h, l, q⟩
end
theorem ord_S (c : Nat) : (S [c]).cps.getD 0 0 = c := rfl
/-! ### likeness in depth -/
theorem w_eqS {K : PySem.W.Frag} {H : Hp} {Q : VK} {x y : V} {d : PyData} (h1 : Dp K H x d) (h2 : Dp K H y d) (hs : SeqAt.shaped d = true) (q : Q (.bl true) H) : rEqD K x y H Q :=
  ⟨d, d, h1, h2, hs, hs, by rw [SeqAt.eqv_refl d (SeqAt.canLay_of_shaped hs)]; exact q⟩
theorem w_neS {K : PySem.W.Frag} {H : Hp} {Q : VK} {x y : V} {d : PyData} (h1 : Dp K H x d) (h2 : Dp K H y d) (hs : SeqAt.shaped d = true) (q : Q (.bl false) H) : rNeD K x y H Q :=
  ⟨d, d, h1, h2, hs, hs, by rw [SeqAt.eqv_refl d (SeqAt.canLay_of_shaped hs)]; exact q⟩
def wordsD (ws : List Word) : PyData := .list (ws.map fun w => .str (S w))
theorem dp_all_words {K : PySem.W.Frag} {H : Hp} : ∀ ws : List Word, DpAll K H (wordsV ws) (ws.map fun w => .str (S w))
  | [] => .nil
  | w :: ws => .cons (.str (S w)) (dp_all_words ws)
theorem dp_words {K : PySem.W.Frag} {H : Hp} {a : Addr} {ws : List Word} (h : H a = some (.lst (wordsV ws))) : Dp K H (.ref a) (wordsD ws) := .lst (SqL.of h) (dp_all_words ws)
theorem strOk_S {w : List Nat} (h : ∀ c ∈ w, c < 1114112) : PyData.strOk (S w) = true := by
  show (w.toArray).all (fun c => decide (c < 0x110000)) = true
  rw [List.all_toArray, List.all_eq_true]
  exact fun c hc => decide_eq_true (h c hc)
theorem words_lay : ∀ {ws : List Word}, (∀ w ∈ ws, ∀ c ∈ w, c < 1114112) → PyData.canLayAll0 (ws.map fun w => .str (S w)) = true ∧ PyData.depthAll (ws.map fun w => .str (S w)) = 0
  | [], _ => ⟨rfl, rfl⟩
  | w :: ws, h => by
    obtain ⟨h1, h2⟩ := words_lay fun v hv => h v (List.mem_cons_of_mem _ hv)
    refine ⟨?_, ?_⟩
    · show (PyData.strOk (S w) && PyData.canLayAll0 (ws.map fun w => .str (S w))) = true
      rw [strOk_S (h w List.mem_cons_self), h1]
      rfl
    · show max 0 (PyData.depthAll (ws.map fun w => .str (S w))) = 0
      rw [h2]
      rfl
theorem shaped_words {ws : List Word} (h : ∀ w ∈ ws, ∀ c ∈ w, c < 1114112) : SeqAt.shaped (wordsD ws) = true := by
  obtain ⟨h1, h2⟩ := words_lay h
  show (PyData.canLayAll0 (ws.map fun w => .str (S w)) && decide (PyData.depthAll (ws.map fun w => .str (S w)) + 1 ≤ 64)) = true
  rw [h1, h2]
  rfl
theorem codes_small {ns : List Int} (g : Good ns) : ∀ w ∈ codesL ns, ∀ c ∈ w, c < 1114112 := fun w hw c hc => by
  obtain ⟨i, hi, rfl⟩ := codesL_mem hw
  rcases (codes_bits g.pos hi).1 c hc with e | e <;> omega
/-! ### books and learners -/
structure BookOk (g : List Nat) (z : Nat) (cap : Int) : Prop where
  one : 1 ≤ g.length
  few : g.length ≤ 40
  nd : g.Nodup
  plain : ∀ c ∈ g, 32 ≤ c ∧ c ≤ 126
  z1 : 1 ≤ z
  z2 : z ≤ 99
  c1 : (g.length : Int) ≤ cap
  c2 : cap ≤ 1000000
def BookAt (C : Addr) (H : Hp) (b : Addr) (g : List Nat) (z : Nat) (cap : Int) : Prop := ∃ dx, H b = some (.ins C dx [("signs", .str (S g)), ("size", .int (z : Int)), ("cap", .int cap)])
theorem BookAt.same {C : Addr} {H H' : Hp} {b : Addr} {g : List Nat} {z : Nat} {cap : Int} (h : BookAt C H b g z cap) (s : Same H H') : BookAt C H' b g z cap := let ⟨dx, e⟩ := h; ⟨dx, s _ _ e⟩
theorem BookAt.but {C : Addr} {H H' : Hp} {b p : Addr} {g : List Nat} {z : Nat} {cap : Int} (h : BookAt C H b g z cap) (s : SameP p H H') (n : b ≠ p) : BookAt C H' b g z cap := let ⟨dx, e⟩ := h; ⟨dx, s _ _ n e⟩
/-- what a learner holds: its shares, the signs that wait; its words are the codes of the shares -/
structure LearnAt (C : Addr) (H : Hp) (p b : Addr) (ns : List Int) (wt : List Nat) : Prop where
  ex : ∃ dx sa wa, H p = some (.ins C dx [("book", .ref b), ("shares", .ref sa), ("words", .ref wa), ("waits", .str (S wt))]) ∧ H sa = some (.lst (ns.map V.int)) ∧ H wa = some (.lst (wordsV (codesL ns)))
theorem LearnAt.same {C : Addr} {H H' : Hp} {p b : Addr} {ns : List Int} {wt : List Nat} (h : LearnAt C H p b ns wt) (s : Same H H') : LearnAt C H' p b ns wt := let ⟨dx, sa, wa, e1, e2, e3⟩ := h.ex; ⟨dx, sa, wa, s _ _ e1, s _ _ e2, s _ _ e3⟩
/-- it stands where another instance is changed -/
theorem LearnAt.but {C C' dx' : Addr} {fs' : List (Str × V)} {H H' : Hp} {p b q : Addr} {ns : List Int} {wt : List Nat} (h : LearnAt C H p b ns wt) (s : SameP q H H') (hq : H q = some (.ins C' dx' fs')) (n : p ≠ q) : LearnAt C H' p b ns wt :=
  let ⟨dx, sa, wa, e1, e2, e3⟩ := h.ex
  ⟨dx, sa, wa, s _ _ n e1, s.at' e2 hq (by intro q; cases q), s.at' e3 hq (by intro q; cases q)⟩
def onesL (g : List Nat) : List Int := g.map fun _ => 1
theorem ones_len (g : List Nat) : (onesL g).length = g.length := List.length_map _
/-- a learner that has taken one sign more -/
def tookS (g : List Nat) (z : Nat) (cap : Int) (st : List Int × List Nat) (c : Nat) : List Int × List Nat :=
  if (st.2 ++ [c]).length = z then (learntL st.1 (countsL g (st.2 ++ [c])) cap, []) else (st.1, st.2 ++ [c])
structure StOk (g : List Nat) (z : Nat) (st : List Int × List Nat) : Prop where
  good : Good st.1
  len : st.1.length = g.length
  wait : st.2.length < z
theorem shrink_ok : ∀ (n : Nat) (cap : Int) (xs : List Int), (∀ x ∈ xs, 1 ≤ x) → (xs.length : Int) ≤ cap → xs.sum.toNat ≤ n → (shrink n cap xs).length = xs.length ∧ (∀ x ∈ shrink n cap xs, 1 ≤ x) ∧ (shrink n cap xs).sum ≤ cap := by
  intro n
  induction n with
  | zero =>
    intro cap xs h hc hn
    have := sum_nonneg h
    exact ⟨rfl, h, by show xs.sum ≤ cap; omega⟩
  | succ m ih =>
    intro cap xs h hc hn
    show (if cap < xs.sum then shrink m cap (halvedL xs) else xs).length = _ ∧ (∀ x ∈ (if cap < xs.sum then shrink m cap (halvedL xs) else xs), 1 ≤ x) ∧ (if cap < xs.sum then shrink m cap (halvedL xs) else xs).sum ≤ cap
    by_cases hs : cap < xs.sum
    · rw [if_pos hs]
      have l := halved_less h hc hs
      have p := sum_nonneg (halved_pos h)
      obtain ⟨h1, h2, h3⟩ := ih cap (halvedL xs) (halved_pos h) (by rw [halved_length]; exact hc) (by omega)
      exact ⟨by rw [h1, halved_length], h2, h3⟩
    · rw [if_neg hs]
      exact ⟨rfl, h, by omega⟩
theorem le_sum : ∀ {xs : List Int} {x : Int}, (∀ y ∈ xs, 1 ≤ y) → x ∈ xs → x ≤ xs.sum
  | y :: ys, x, h, hx => by
    have hp := sum_nonneg fun z hz => h z (List.mem_cons_of_mem _ hz)
    have hy := h y List.mem_cons_self
    rw [List.sum_cons]
    rcases List.mem_cons.mp hx with e | e
    · rw [e]; omega
    · have := le_sum (fun z hz => h z (List.mem_cons_of_mem _ hz)) e
      omega
theorem counts_bounds (g bl : List Nat) : ∀ n ∈ countsL g bl, 0 ≤ n ∧ n ≤ (bl.length : Int) := fun n hn => by
  obtain ⟨c, _, rfl⟩ := List.mem_map.mp hn
  have := List.count_le_length (a := c) (l := bl)
  omega
theorem learnt_good {ns cs : List Int} {cap : Int} (g : Good ns) (hl : cs.length = ns.length) (hc : ∀ n ∈ cs, 0 ≤ n) (h1 : (ns.length : Int) ≤ cap) (h2 : cap ≤ 1000000) : Good (learntL ns cs cap) ∧ (learntL ns cs cap).length = ns.length := by
  have pos : ∀ x ∈ addL ns cs, 1 ≤ x := addL_pos (fun x hx => (g.each x hx).1) hc
  have la := addL_length hl
  obtain ⟨l1, l2, l3⟩ := shrink_ok (addL ns cs).sum.toNat cap (addL ns cs) pos (by rw [la]; exact h1) (Nat.le_refl _)
  have e : (learntL ns cs cap).length = ns.length := by show (shrink _ _ _).length = _; rw [l1, la]
  refine ⟨⟨by rw [e]; exact g.pos, by rw [e]; exact g.few, fun n hn => ⟨l2 n hn, ?_⟩⟩, e⟩
  have := le_sum l2 hn
  unfold mostShare
  omega
theorem tookS_ok {g : List Nat} {z : Nat} {cap : Int} {st : List Int × List Nat} {c : Nat} (b : BookOk g z cap) (h : StOk g z st) : StOk g z (tookS g z cap st c) := by
  unfold tookS
  split
  · obtain ⟨h1, h2⟩ := learnt_good (cs := countsL g (st.2 ++ [c])) h.good (by rw [countsL_len, h.len]) (fun n hn => (counts_bounds _ _ n hn).1) (by rw [h.len]; exact b.c1) b.c2
    exact ⟨h1, by rw [h2, h.len], b.z1⟩
  · rename_i hn
    have hw := h.wait
    refine ⟨h.good, h.len, ?_⟩
    show (st.2 ++ [c]).length < z
    rw [List.length_append, List.length_singleton] at hn ⊢
    omega
theorem ones_ok {g : List Nat} {z : Nat} {cap : Int} (b : BookOk g z cap) : StOk g z (onesL g, []) :=
  ⟨⟨by rw [ones_len]; exact b.one, by rw [ones_len]; exact b.few, fun n hn => by obtain ⟨c, _, rfl⟩ := List.mem_map.mp hn; unfold mostShare; omega⟩, ones_len g, b.z1⟩
def runS (g : List Nat) (z : Nat) (cap : Int) : List Int × List Nat → List Nat → List Int × List Nat
  | st, [] => st
  | st, c :: w => runS g z cap (tookS g z cap st c) w
theorem runS_ok {g : List Nat} {z : Nat} {cap : Int} (b : BookOk g z cap) : ∀ {w : List Nat} {st : List Int × List Nat}, StOk g z st → StOk g z (runS g z cap st w)
  | [], _, h => h
  | c :: w, st, h => by
    show StOk g z (runS g z cap (tookS g z cap st c) w)
    exact runS_ok b (tookS_ok b h)
theorem runS_app {g : List Nat} {z : Nat} {cap : Int} : ∀ {w v : List Nat} {st : List Int × List Nat}, runS g z cap st (w ++ v) = runS g z cap (runS g z cap st w) v
  | [], _, _ => rfl
  | c :: w, v, st => by
    show runS g z cap (tookS g z cap st c) (w ++ v) = runS g z cap (runS g z cap (tookS g z cap st c) w) v
    exact runS_app
end Sp
/-! ## Packing -/
namespace Sp
open PySem PySem.Spec PyProof.Rows L2
theorem sub_at {g : List Nat} {c i : Nat} : Builtin.Str.subAt (S g) (S [c]) i = true ↔ g[i]? = some c := by
  show (g.toArray.extract i (i + 1) == [c].toArray) = true ↔ _
  rw [beq_iff_eq]
  constructor
  · intro h
    have h' := congrArg Array.toList h
    simp only [Array.toList_extract, List.extract_eq_drop_take, Nat.add_sub_cancel_left] at h'
    have h2 : (g.drop i).take 1 = [c] := h'
    have h3 : ((g.drop i).take 1)[0]? = some c := by rw [h2]; rfl
    rw [List.getElem?_take_of_lt (by decide), List.getElem?_drop] at h3
    exact h3
  · intro h
    have hi := (List.getElem?_eq_some_iff.mp h).1
    apply Array.ext'
    simp only [Array.toList_extract, List.extract_eq_drop_take, Nat.add_sub_cancel_left]
    show (g.drop i).take 1 = [c]
    rw [List.drop_eq_getElem_cons hi]
    have e : g[i] = c := by rw [List.getElem?_eq_getElem hi] at h; exact Option.some.inj h
    rw [e]
    rfl
theorem nodup_at {g : List Nat} (nd : g.Nodup) {i j c : Nat} (h1 : g[i]? = some c) (h2 : g[j]? = some c) : i = j := by
  obtain ⟨hi, e1⟩ := List.getElem?_eq_some_iff.mp h1
  obtain ⟨hj, e2⟩ := List.getElem?_eq_some_iff.mp h2
  exact (List.getElem_inj nd).mp (e1.trans e2.symm)
theorem occ_sign {g : List Nat} (nd : g.Nodup) {i c : Nat} (h : g[i]? = some c) : ∃ r, Builtin.Str.occurrences (S g) (S [c]) 0 (S g).length 1 = i :: r := by
  have hi := (List.getElem?_eq_some_iff.mp h).1
  rcases StrLaws.occ_head (S g) (S [c]) 1 (Nat.le_refl _) with ⟨_, hn⟩ | ⟨j, r, e, ha, _⟩
  · exact (hn i ⟨by rw [S_len, S_len]; exact hi, sub_at.mpr h⟩).elim
  · rw [nodup_at nd h (sub_at.mp ha.2)]
    exact ⟨r, e⟩
theorem idx_of {g : List Nat} {c : Nat} (h : c ∈ g) : g[g.idxOf c]? = some c := by
  have hl := List.idxOf_lt_length_of_mem h
  rw [List.getElem?_eq_getElem hl, List.getElem_idxOf hl]
theorem w_index {g : List Nat} {c i : Nat} {H : Hp} {Q : VK} (nd : g.Nodup) (h : g[i]? = some c) (q : Q (.int (i : Int)) H) : rSIndex (.str (S g)) [.str (S [c])] H Q := by
  obtain ⟨r, e⟩ := occ_sign nd h
  exact ⟨S g, S [c], i, r, rfl, rfl, e, q⟩
theorem in_S {g : List Nat} {c : Nat} : decide (c ∈ (S g).cps.toList) = decide (c ∈ g) := rfl
/-- the code of a sign -/
def wordAt (g : List Nat) (ns : List Int) (c : Nat) : Word := (codesL ns).getD (g.idxOf c) []
def packS (g : List Nat) (z : Nat) (cap : Int) : List Int × List Nat → List Nat → Word
  | _, [] => []
  | st, c :: w => wordAt g st.1 c ++ packS g z cap (tookS g z cap st c) w
theorem packS_app {g : List Nat} {z : Nat} {cap : Int} : ∀ {w v : List Nat} {st : List Int × List Nat}, packS g z cap st (w ++ v) = packS g z cap st w ++ packS g z cap (runS g z cap st w) v
  | [], v, st => rfl
  | c :: w, v, st => by
    show wordAt g st.1 c ++ packS g z cap (tookS g z cap st c) (w ++ v) = (wordAt g st.1 c ++ packS g z cap (tookS g z cap st c) w) ++ packS g z cap (runS g z cap (tookS g z cap st c) w) v
    rw [packS_app, List.append_assoc]
theorem wordAt_way {g : List Nat} {z : Nat} {st : List Int × List Nat} {c : Nat} (ok : StOk g z st) (h : c ∈ g) : g.idxOf c < st.1.length ∧ (codesL st.1)[g.idxOf c]? = some (wordAt g st.1 c) ∧ wordAt g st.1 c = wayL st.1 (g.idxOf c) := by
  have hl := List.idxOf_lt_length_of_mem h
  have hi : g.idxOf c < st.1.length := by rw [ok.len]; exact hl
  have e := codesL_get hi
  refine ⟨hi, ?_, ?_⟩
  · unfold wordAt
    rw [List.getD_eq_getElem?_getD, e]
    rfl
  · unfold wordAt
    rw [List.getD_eq_getElem?_getD, e]
    rfl
theorem wordAt_bits {g : List Nat} {z : Nat} {st : List Int × List Nat} {c : Nat} (ok : StOk g z st) (h : c ∈ g) : (∀ d ∈ wordAt g st.1 c, d = 48 ∨ d = 49) ∧ (wordAt g st.1 c).length ≤ 39 := by
  obtain ⟨hi, _, e⟩ := wordAt_way ok h
  have b := codes_bits ok.good.pos hi
  have f := ok.good.few
  rw [e]
  exact ⟨b.1, by omega⟩
theorem packS_bits {g : List Nat} {z : Nat} {cap : Int} (b : BookOk g z cap) : ∀ {w : List Nat} {st : List Int × List Nat}, StOk g z st → (∀ c ∈ w, c ∈ g) → (∀ d ∈ packS g z cap st w, d = 48 ∨ d = 49) ∧ (packS g z cap st w).length ≤ 39 * w.length
  | [], _, _, _ => ⟨fun d hd => (List.not_mem_nil hd).elim, Nat.le_refl _⟩
  | c :: w, st, ok, h => by
    have h1 := wordAt_bits ok (h c List.mem_cons_self)
    have h2 := packS_bits b (w := w) (tookS_ok (c := c) b ok) fun d hd => h d (List.mem_cons_of_mem _ hd)
    show (∀ d ∈ wordAt g st.1 c ++ packS g z cap (tookS g z cap st c) w, d = 48 ∨ d = 49) ∧ (wordAt g st.1 c ++ packS g z cap (tookS g z cap st c) w).length ≤ 39 * (w.length + 1)
    refine ⟨fun d hd => ?_, ?_⟩
    · rcases List.mem_append.mp hd with e | e
      · exact h1.1 d e
      · exact h2.1 d e
    · rw [List.length_append]
      have := h1.2
      have := h2.2
      omega
def st0 (g : List Nat) : List Int × List Nat := (onesL g, [])
/-! ### packers -/
def PackAt (C : Addr) (H : Hp) (k p b : Addr) : Prop := ∃ dx, H k = some (.ins C dx [("book", .ref b), ("learner", .ref p)])
theorem PackAt.same {C : Addr} {H H' : Hp} {k p b : Addr} (h : PackAt C H k p b) (s : Same H H') : PackAt C H' k p b := let ⟨dx, e⟩ := h; ⟨dx, s _ _ e⟩
theorem PackAt.but {C : Addr} {H H' : Hp} {k p b q : Addr} (h : PackAt C H k p b) (s : SameP q H H') (n : k ≠ q) : PackAt C H' k p b := let ⟨dx, e⟩ := h; ⟨dx, s _ _ n e⟩
/-! ### a report -/
/-- the codes of signs, the shares being the same for all -/
def packF (g : List Nat) (ns : List Int) : List Nat → Word
  | [] => []
  | c :: w => wordAt g ns c ++ packF g ns w
theorem packF_app {g : List Nat} {ns : List Int} : ∀ {w v : List Nat}, packF g ns (w ++ v) = packF g ns w ++ packF g ns v
  | [], _ => rfl
  | c :: w, v => by
    show wordAt g ns c ++ packF g ns (w ++ v) = (wordAt g ns c ++ packF g ns w) ++ packF g ns v
    rw [packF_app, List.append_assoc]
/-- within one block -/
theorem run_block {g : List Nat} {z : Nat} {cap : Int} {ns : List Int} : ∀ (w pre : List Nat), (pre ++ w).length ≤ z → 1 ≤ w.length →
    packS g z cap (ns, pre) w = packF g ns w ∧ runS g z cap (ns, pre) w = if (pre ++ w).length = z then (learntL ns (countsL g (pre ++ w)) cap, []) else (ns, pre ++ w)
  | [], _, _, h => absurd h (by decide)
  | [c], pre, hl, _ => by
    refine ⟨rfl, ?_⟩
    show tookS g z cap (ns, pre) c = _
    rfl
  | c :: d :: w, pre, hl, _ => by
    have e1 : tookS g z cap (ns, pre) c = (ns, pre ++ [c]) := by
      unfold tookS
      rw [if_neg (by simp at hl ⊢; omega)]
    have ih := run_block (g := g) (z := z) (cap := cap) (ns := ns) (d :: w) (pre ++ [c]) (by rw [List.append_assoc]; exact hl) (by simp)
    rw [List.append_assoc, List.singleton_append] at ih
    refine ⟨?_, ?_⟩
    · show wordAt g ns c ++ packS g z cap (tookS g z cap (ns, pre) c) (d :: w) = wordAt g ns c ++ packF g ns (d :: w)
      rw [e1, ih.1]
    · show runS g z cap (tookS g z cap (ns, pre) c) (d :: w) = _
      rw [e1, ih.2]
def reportL (g : List Nat) (z : Nat) (cap : Int) : Nat → List Int → List Nat → List (List Int × Word)
  | 0, _, _ => []
  | f + 1, ns, w => if w.length = 0 then [] else (ns, packF g ns (w.take z)) :: reportL g z cap f (learntL ns (countsL g (w.take z)) cap) (w.drop z)
def repD (rows : List (List Int × Word)) : PyData := .list (rows.map fun r => .tuple [.list (r.1.map .int), .str (S r.2)])
/-- rows of a report: tuples of a list and a text, N of their lists -/
def RepIn (N : Addr → Prop) (H : Hp) (xs : List V) (rows : List (List Int × Word)) : Prop := Paired (fun x (r : List Int × Word) => ∃ t l, x = V.ref t ∧ N l ∧ H t = some (.tup [.ref l, .str (S r.2)]) ∧ H l = some (.lst (r.1.map V.int))) xs rows
theorem RepIn.same {N : Addr → Prop} {H H' : Hp} {xs : List V} {rows : List (List Int × Word)} (h : RepIn N H xs rows) (s : Same H H') : RepIn N H' xs rows := Paired.mapP h fun _ _ ⟨t, l, e, n, h1, h2⟩ => ⟨t, l, e, n, s _ _ h1, s _ _ h2⟩
theorem RepIn.but {N : Addr → Prop} {q C dx : Addr} {fs : List (Str × V)} {H H' : Hp} {xs : List V} {rows : List (List Int × Word)} (h : RepIn N H xs rows) (s : SameP q H H') (hq : H q = some (.ins C dx fs)) : RepIn N H' xs rows :=
  Paired.mapP h fun _ _ ⟨t, l, e, n, h1, h2⟩ => ⟨t, l, e, n, s.at' h1 hq (by intro q; cases q), s.at' h2 hq (by intro q; cases q)⟩
theorem RepIn.put {N : Addr → Prop} {pf : Addr} {H : Hp} {ys zs xs : List V} {rows : List (List Int × Word)} (h : RepIn N H xs rows) (hl : H pf = some (.lst ys)) (hn : ∀ l, N l → l ≠ pf) : RepIn N (upd H pf (.lst zs)) xs rows :=
  Paired.mapP h fun _ _ ⟨t, l, e, n, h1, h2⟩ => ⟨t, l, e, n, tup_ne h1 hl, by rw [upd_ne (hn l n)]; exact h2⟩
theorem paired_app {α β : Type} {F : α → β → Prop} : ∀ {l l2 : List α} {m m2 : List β}, Paired F l m → Paired F l2 m2 → Paired F (l ++ l2) (m ++ m2)
  | _, _, _, _, .nil, h => h
  | _, _, _, _, .cons f r, h => .cons f (paired_app r h)
theorem dp_ints {K : PySem.W.Frag} {H : Hp} : ∀ ns : List Int, DpAll K H (ns.map V.int) (ns.map PyData.int)
  | [] => .nil
  | n :: ns => .cons (.int n) (dp_ints ns)
theorem dp_rep_all {K : PySem.W.Frag} {N : Addr → Prop} {H : Hp} : ∀ {xs : List V} {rows : List (List Int × Word)}, RepIn N H xs rows → DpAll K H xs (rows.map fun r => .tuple [.list (r.1.map .int), .str (S r.2)])
  | _, _, .nil => .nil
  | _, _, .cons ⟨t, l, e, _, h1, h2⟩ r => by
    rw [e]
    exact .cons (.tup (SqT.of h1) (.cons (.lst (SqL.of h2) (dp_ints _)) (.cons (.str _) .nil))) (dp_rep_all r)
theorem dp_rep {K : PySem.W.Frag} {N : Addr → Prop} {a : Addr} {H : Hp} {xs : List V} {rows : List (List Int × Word)} (h : H a = some (.lst xs)) (r : RepIn N H xs rows) : Dp K H (.ref a) (repD rows) := .lst (SqL.of h) (dp_rep_all r)
theorem ints_lay : ∀ ns : List Int, PyData.canLayAll0 (ns.map PyData.int) = true ∧ PyData.depthAll (ns.map PyData.int) = 0
  | [] => ⟨rfl, rfl⟩
  | n :: ns => by
    obtain ⟨h1, h2⟩ := ints_lay ns
    refine ⟨?_, ?_⟩
    · show (true && PyData.canLayAll0 (ns.map PyData.int)) = true
      rw [h1]
      rfl
    · show max 0 (PyData.depthAll (ns.map PyData.int)) = 0
      rw [h2]
      rfl
theorem rep_lay : ∀ {rows : List (List Int × Word)}, (∀ r ∈ rows, ∀ c ∈ r.2, c < 1114112) → PyData.canLayAll0 (rows.map fun r => .tuple [.list (r.1.map .int), .str (S r.2)]) = true ∧ PyData.depthAll (rows.map fun r => .tuple [.list (r.1.map .int), .str (S r.2)]) ≤ 2
  | [], _ => ⟨rfl, by decide⟩
  | r :: rows, h => by
    obtain ⟨h1, h2⟩ := rep_lay fun v hv => h v (List.mem_cons_of_mem _ hv)
    obtain ⟨k1, k2⟩ := ints_lay r.1
    refine ⟨?_, ?_⟩
    · show ((PyData.canLayAll0 (r.1.map PyData.int) && (PyData.strOk (S r.2) && true)) && PyData.canLayAll0 (rows.map fun r => .tuple [.list (r.1.map .int), .str (S r.2)])) = true
      rw [h1, k1, strOk_S (h r List.mem_cons_self)]
      rfl
    · show max (max (PyData.depthAll (r.1.map PyData.int) + 1) (max 0 0) + 1) (PyData.depthAll (rows.map fun r => .tuple [.list (r.1.map .int), .str (S r.2)])) ≤ 2
      rw [k2]
      exact Nat.max_le.mpr ⟨by decide, h2⟩
theorem shaped_rep {rows : List (List Int × Word)} (h : ∀ r ∈ rows, ∀ c ∈ r.2, c < 1114112) : SeqAt.shaped (repD rows) = true := by
  obtain ⟨h1, h2⟩ := rep_lay h
  show (PyData.canLayAll0 (rows.map fun r => .tuple [.list (r.1.map .int), .str (S r.2)]) && decide (PyData.depthAll (rows.map fun r => .tuple [.list (r.1.map .int), .str (S r.2)]) + 1 ≤ 64)) = true
  rw [h1, decide_eq_true (by omega)]
  rfl
theorem reportL_nil {g : List Nat} {z : Nat} {cap : Int} : ∀ (f : Nat) (ns : List Int), reportL g z cap f ns [] = []
  | 0, _ => rfl
  | _ + 1, _ => rfl
theorem reportL_step {g : List Nat} {z : Nat} {cap : Int} {f : Nat} {ns : List Int} {w : List Nat} (h : 1 ≤ w.length) : reportL g z cap (f + 1) ns w = (ns, packF g ns (w.take z)) :: reportL g z cap f (learntL ns (countsL g (w.take z)) cap) (w.drop z) := by
  show (if w.length = 0 then [] else _) = _
  rw [if_neg (by omega)]
/-- what a state is behind a block -/
theorem run_take {g : List Nat} {z : Nat} {cap : Int} {ns : List Int} {w : List Nat} (h : 1 ≤ w.length) (z1 : 1 ≤ z) : packS g z cap (ns, []) (w.take z) = packF g ns (w.take z) ∧ (1 ≤ (w.drop z).length → runS g z cap (ns, []) (w.take z) = (learntL ns (countsL g (w.take z)) cap, [])) := by
  have lt : (w.take z).length ≤ z := by rw [List.length_take]; omega
  obtain ⟨h1, h2⟩ := run_block (g := g) (z := z) (cap := cap) (ns := ns) (w.take z) [] (by rw [List.nil_append]; exact lt) (by rw [List.length_take]; omega)
  refine ⟨h1, fun hd => ?_⟩
  rw [List.length_drop] at hd
  rw [h2, if_pos (by rw [List.nil_append, List.length_take]; omega)]
  rfl
theorem report_bits {g : List Nat} {z : Nat} {cap : Int} (z1 : 1 ≤ z) : ∀ (f : Nat) (ns : List Int) (w : List Nat), w.length ≤ f → ((reportL g z cap f ns w).map Prod.snd).flatten = packS g z cap (ns, []) w
  | 0, ns, w, h => by
    have e : w = [] := List.length_eq_zero_iff.mp (by omega)
    rw [e]
    rfl
  | f + 1, ns, w, h => by
    by_cases h0 : w.length = 0
    · have e : w = [] := List.length_eq_zero_iff.mp h0
      rw [e]
      rfl
    · have h1 : 1 ≤ w.length := by omega
      obtain ⟨r1, r2⟩ := run_take (g := g) (cap := cap) (ns := ns) h1 z1
      rw [reportL_step h1, List.map_cons, List.flatten_cons]
      have e2 : packS g z cap (ns, []) w = packS g z cap (ns, []) (w.take z ++ w.drop z) := by rw [List.take_append_drop]
      rw [e2, packS_app, r1]
      congr 1
      by_cases hd : 1 ≤ (w.drop z).length
      · rw [r2 hd]
        exact report_bits z1 f _ _ (by rw [List.length_drop]; omega)
      · have e : w.drop z = [] := List.length_eq_zero_iff.mp (by omega)
        rw [e, reportL_nil]
        rfl
/-- a learner's lists are none that holds other things -/
theorem LearnAt.put {C : Addr} {H : Hp} {p b pf : Addr} {ns : List Int} {wt : List Nat} {xs zs : List V} (h : LearnAt C H p b ns wt) (gd : Good ns) (hf : H pf = some (.lst xs)) (hx : ∀ x ∈ xs, ∃ t, x = V.ref t) : LearnAt C (upd H pf (.lst zs)) p b ns wt := by
  obtain ⟨dx, sa, wa, e1, e2, e3⟩ := h.ex
  have pos := gd.pos
  have n2 : sa ≠ pf := fun e => by
    subst e
    have q : ns.map V.int = xs := HO.lst.inj (Option.some.inj (e2.symm.trans hf))
    cases ns with
    | nil => simp at pos
    | cons n ns =>
      obtain ⟨t, et⟩ := hx (.int n) (by rw [← q]; exact List.mem_cons_self)
      cases et
  have n3 : wa ≠ pf := fun e => by
    subst e
    have q : wordsV (codesL ns) = xs := HO.lst.inj (Option.some.inj (e3.symm.trans hf))
    obtain ⟨v, hv⟩ : ∃ v, (wordsV (codesL ns))[0]? = some v := ⟨_, List.getElem?_eq_getElem (by rw [wordsV_len, codesL_len]; omega)⟩
    obtain ⟨u, _, rfl⟩ := wordsV_get hv
    obtain ⟨t, et⟩ := hx _ (by rw [← q]; exact List.mem_of_getElem? hv)
    cases et
  exact ⟨dx, sa, wa, by rw [upd_ne (ne_of e1 hf (by intro q; cases q))]; exact e1, by rw [upd_ne n2]; exact e2, by rw [upd_ne n3]; exact e3⟩
theorem BookAt.put {C : Addr} {H : Hp} {b pf : Addr} {g : List Nat} {z : Nat} {cap : Int} {xs zs : List V} (h : BookAt C H b g z cap) (hf : H pf = some (.lst xs)) : BookAt C (upd H pf (.lst zs)) b g z cap := let ⟨dx, e⟩ := h; ⟨dx, by rw [upd_ne (ne_of e hf (by intro q; cases q))]; exact e⟩
theorem PackAt.put {C : Addr} {H : Hp} {k p b pf : Addr} {xs zs : List V} (h : PackAt C H k p b) (hf : H pf = some (.lst xs)) : PackAt C (upd H pf (.lst zs)) k p b := let ⟨dx, e⟩ := h; ⟨dx, by rw [upd_ne (ne_of e hf (by intro q; cases q))]; exact e⟩
theorem RepIn.refs {N : Addr → Prop} {H : Hp} {xs : List V} {rows : List (List Int × Word)} (h : RepIn N H xs rows) : ∀ x ∈ xs, ∃ t, x = V.ref t := fun x hx => by
  obtain ⟨i, hi, e⟩ := List.getElem_of_mem hx
  obtain ⟨_, _, t, _, e2, _⟩ := paired_at' h (i := i) (by rw [List.getElem?_eq_getElem hi, e])
  exact ⟨t, e2⟩
theorem cutS_mid {l : List Nat} {i n : Nat} (h : i ≤ l.length) : cutS (S l) (some (i : Int)) (some ((i : Int) + (n : Int))) = S ((l.drop i).take n) := by
  rw [← Int.natCast_add, cutS_S, HT.sIx_nat, HT.sIx_nat, Nat.min_eq_left h]
  by_cases h2 : i + n ≤ l.length
  · rw [Nat.min_eq_left h2, Nat.add_sub_cancel_left]
  · rw [Nat.min_eq_right (by omega)]
    rw [List.take_of_length_le (show (l.drop i).length ≤ l.length - i by rw [List.length_drop]; exact Nat.le_refl _), List.take_of_length_le (show (l.drop i).length ≤ n by rw [List.length_drop]; omega)]
theorem paired_take {α β : Type} {F : α → β → Prop} : ∀ {l : List α} {m : List β} (n : Nat), Paired F l m → Paired F (l.take n) (m.take n)
  | _, _, 0, _ => .nil
  | _, _, _ + 1, .nil => .nil
  | _, _, n + 1, .cons f r => .cons f (paired_take n r)
theorem RepIn.take {N : Addr → Prop} {H : Hp} {xs : List V} {rows : List (List Int × Word)} (h : RepIn N H xs rows) (n : Nat) : RepIn N H (xs.take n) (rows.take n) := paired_take n h
theorem report_one {g : List Nat} {z : Nat} {cap : Int} (z1 : 1 ≤ z) (ns : List Int) (w : List Nat) : reportL g z cap (w.take z).length ns (w.take z) = (reportL g z cap w.length ns w).take 1 := by
  by_cases h0 : w.length = 0
  · have e : w = [] := List.length_eq_zero_iff.mp h0
    rw [e, List.take_nil, reportL_nil]
    rfl
  · have h1 : 1 ≤ w.length := by omega
    have h2 : 1 ≤ (w.take z).length := by rw [List.length_take]; omega
    obtain ⟨f, hf⟩ : ∃ f, w.length = f + 1 := ⟨w.length - 1, by omega⟩
    obtain ⟨f2, hf2⟩ : ∃ f2, (w.take z).length = f2 + 1 := ⟨(w.take z).length - 1, by omega⟩
    rw [hf, hf2, reportL_step h1, reportL_step h2, List.take_take, Nat.min_self, List.take_succ_cons, List.take_zero]
    have e : (w.take z).drop z = [] := List.length_eq_zero_iff.mp (by rw [List.length_drop, List.length_take]; omega)
    rw [e, reportL_nil]
def bitsL (R : List (List Int × Word)) (i : Nat) : Word := ((R.take i).map Prod.snd).flatten
theorem bitsL_succ {R : List (List Int × Word)} {i : Nat} {r : List Int × Word} (h : R[i]? = some r) : bitsL R (i + 1) = bitsL R i ++ r.2 := by
  unfold bitsL
  rw [take_succ h, List.map_append, List.flatten_append]
  show _ ++ (r.2 ++ []) = _
  rw [List.append_nil]
theorem bitsL_le (R : List (List Int × Word)) (i : Nat) : (bitsL R i).length ≤ (R.map Prod.snd).flatten.length := by
  have e : (R.map Prod.snd).flatten = bitsL R i ++ ((R.drop i).map Prod.snd).flatten := by
    unfold bitsL
    rw [← List.flatten_append, ← List.map_append, List.take_append_drop]
  rw [e, List.length_append]
  omega
theorem bitsL_all (R : List (List Int × Word)) : bitsL R R.length = (R.map Prod.snd).flatten := by
  unfold bitsL
  rw [List.take_length]
end Sp
/-! ## Unpacking -/
namespace Sp
open PySem PySem.Spec PyProof.Rows L2
/-- text[::-1] -/
def revT (z : Str) : Str := ⟨z.cps.toList.reverse.toArray⟩
def tRevS (te : TE) : TE := fun σ H Q => te σ H fun x H1 => ∃ z, x = .str z ∧ z.length ≤ sizeLine ∧ Q (.str (revT z)) H1
theorem rev_idx (z : Str) : ((Builtin.Str.strSliceIndices none none (-1) z.length).filterMap (z.cps[·]?)).toArray = z.cps.toList.reverse.toArray := by
  show ((sliceRange ((z.cps.size : Int) - 1) (-1) (-1)).filterMap (z.cps[·]?)).toArray = _
  rw [PySem.W.krv_sliceRange, PySem.W.krv_range, List.filterMap_reverse, PySem.W.krv_all]
theorem pe_revStr {X : Cx} {e : Expr} {te : TE} {k : Nat} {p1 p2 p3 pos : Pos} (he : PE X e te) : PE X (.Subscript e (.Slice none none (some (.UnaryOp .USub (.Constant (.int 1) k p1) p2)) p3) pos) (tRevS te) := by
  refine ⟨fun pins s σ H Q I h => ?_⟩
  refine Subscript_ (thn (he.run pins s σ H _ I h) fun v s1 ⟨x, H1, I1, r1, q1⟩ => ?_)
  obtain ⟨z, ex, hz, q⟩ := q1
  subst ex
  obtain ⟨t, rfl⟩ := r1
  have hst : PO X (some (.UnaryOp .USub (.Constant (.int 1) k p1) p2)) (tPart (tUn (rU fun i => .int (-i)) (tC (.int 1)))) := po_some (pe_un un_neg pe_int)
  refine wpAny_Slice (thn (po_none.run pins s1 σ H1 (fun o H2 => o = none ∧ H2 = H1) I1 ⟨rfl, rfl⟩) fun vl s2 ⟨l, H2, I2, pl, el, e2⟩ => ?_)
  subst el e2
  refine thn (po_none.run pins s2 σ H2 (fun o H3 => o = none ∧ H3 = H2) I2 ⟨rfl, rfl⟩) fun vu s3 ⟨u, H3, I3, pu, eu, e3⟩ => ?_
  subst eu e3
  refine thn (hst.run pins s3 σ H3 (fun o H4 => o = some (-1) ∧ H4 = H3) I3 ⟨1, rfl, -1, rfl, rfl, rfl⟩) fun vs s4 ⟨o, H4, I4, ps, eo, e4⟩ => ?_
  subst eo e4
  have I5 : Inv X pins σ H4 { s4 with heap := s4.heap.push { cls := .type "slice", data := .fields #[vl, vu, vs] } } := I4.kept (t' := s4.toks) fun b ob q => Heap.get?_push_of_some _ q
  show wpAny (model X.prog X.w) X.A (subscriptTail e (.Slice none none (some (.UnaryOp .USub (.Constant (.int 1) k p1) p2)) p3) (.str z t) (.ref s4.heap.objs.size)) (EP X pins σ Q) X.xe { s4 with heap := s4.heap.push { cls := .type "slice", data := .fields #[vl, vu, vs] } }
  refine tail_any (ops := [.ref s4.heap.objs.size, .str z t]) (typeIs_str _ _ _) F.slot_str_getitem.lookup ?_ (by with_unfolding_all rfl)
  obtain ⟨os, hos, hcs, hds⟩ := Heap.IsSliceOf.new s4.heap vl vu vs
  obtain ⟨l, rfl, hl⟩ := IsPart.raw pl
  obtain ⟨u, rfl, hu⟩ := IsPart.raw pu
  obtain ⟨st, rfl, hs⟩ := IsPart.raw ps
  refine wpAny_getItem_str_slice (l := l) (u := u) (st := st) ⟨os, hos, hcs, hds⟩ (by rw [hs]; rfl) ?_
  have hp : slicePicked z l u st = Builtin.Str.strSliceIndices none none (-1) z.length := by
    unfold slicePicked
    rw [hs, hl, hu]
    rfl
  unfold sliceMade
  rw [hp, hs]
  show Made.post (if ((-1 : Int) == 1 && _) = true then _ else Made.str ⟨((Builtin.Str.strSliceIndices none none (-1) z.length).filterMap (z.cps[·]?)).toArray⟩) (EP X pins σ Q) _
  rw [if_neg (by simp), rev_idx]
  refine ⟨?_, .str _, H4, I5.tok _, ⟨_, rfl⟩, q⟩
  show z.cps.toList.reverse.toArray.size ≤ sizeLine
  rw [List.size_toArray, List.length_reverse]
  exact hz
theorem revT_S (l : List Nat) : revT (S l) = S l.reverse := rfl
theorem w_revS {te : TE} {σ : L2.St} {H : Hp} {Q : VK} (h : te σ H fun x H1 => ∃ z, x = .str z ∧ z.length ≤ sizeLine ∧ Q (.str (revT z)) H1) : tRevS te σ H Q := h
theorem w_revX {R : Str → Prop} {l : List Nat} (hl : l.length ≤ sizeLine) (q : R (S l)) : ∃ z, V.str (S l) = .str z ∧ z.length ≤ sizeLine ∧ R z := ⟨S l, rfl, by rw [S_len]; exact hl, q⟩
/-! ### words in a list -/
theorem S_eq {a b : List Nat} : (S a == S b) = decide (a = b) := by
  by_cases h : a = b
  · subst h
    rw [decide_eq_true rfl]
    exact beq_self_eq_true _
  · rw [decide_eq_false h]
    exact beq_eq_false_iff_ne.mpr fun e => h (SX.S_inj e)
theorem inV_word (w : Word) (ws : List Word) : inV (.str (S w)) (wordsV ws) = decide (w ∈ ws) := by
  unfold inV wordsV
  rw [List.any_map]
  by_cases h : w ∈ ws
  · rw [decide_eq_true h, List.any_eq_true]
    exact ⟨w, h, by show (S w == S w) = true; exact beq_self_eq_true _⟩
  · rw [decide_eq_false h, List.any_eq_false]
    intro v hv
    show ¬ (S v == S w) = true
    rw [S_eq, decide_eq_true_iff]
    exact fun e => h (e ▸ hv)
theorem flat_words (ws : List Word) : (wordsV ws).all flatV = true := by
  unfold wordsV
  rw [List.all_map, List.all_eq_true]
  intro _ _
  rfl
theorem w_inW {K : PySem.W.Frag} {H : Hp} {Q : VK} {a : Addr} {w : Word} {ws : List Word} (h : H a = some (.lst (wordsV ws))) (q : Q (.bl (decide (w ∈ ws))) H) : rIn K false (.str (S w)) (.ref a) H Q :=
  w_in (SqL.of h) rfl (flat_words ws) (by rw [inV_word]; exact q)
theorem w_idxW {K : PySem.W.Frag} {H : Hp} {Q : VK} {a : Addr} {ws : List Word} {j : Nat} {w : Word} (h : H a = some (.lst (wordsV ws))) (hj : ws[j]? = some w) (hn : ∀ m, m < j → ws[m]? ≠ some w) (q : Q (.int (j : Int)) H) : rIndex K (.ref a) [.str (S w)] H Q := by
  refine ⟨a, wordsV ws, .str (S w), j, .str (S w), rfl, rfl, SqL.of h, rfl, flat_words ws, by unfold wordsV; rw [List.getElem?_map, hj] <;> rfl, by show (S w == S w) = true; exact beq_self_eq_true _, fun m z hm hz => ?_, q⟩
  obtain ⟨v, hv, rfl⟩ := wordsV_get hz
  show (S v == S w) = false
  rw [S_eq, decide_eq_false_iff_not]
  exact fun e => hn m hm (by rw [hv, e])
/-! ### what a stream tells -/
/-- a word among the codes that begins like the next sign's code is that code -/
theorem word_is {g : List Nat} {z : Nat} {st : List Int × List Nat} {c : Nat} {w : Word} (ok : StOk g z st) (h : c ∈ g) (hw : w ∈ codesL st.1) (hp : w <+: wordAt g st.1 c) : w = wordAt g st.1 c := by
  obtain ⟨hi, _, e⟩ := wordAt_way ok h
  obtain ⟨j, hj, rfl⟩ := codesL_mem hw
  by_cases hji : j = g.idxOf c
  · rw [hji, e]
  · rw [e] at hp
    exact (codes_apart ok.good.pos hj hi hji hp).elim
theorem wordAt_mem {g : List Nat} {z : Nat} {st : List Int × List Nat} {c : Nat} (ok : StOk g z st) (h : c ∈ g) : wordAt g st.1 c ∈ codesL st.1 := List.mem_of_getElem? (wordAt_way ok h).2.1
/-- where it stands first -/
theorem wordAt_first {g : List Nat} {z : Nat} {st : List Int × List Nat} {c : Nat} (ok : StOk g z st) (h : c ∈ g) : ∀ m, m < g.idxOf c → (codesL st.1)[m]? ≠ some (wordAt g st.1 c) := fun m hm e => by
  obtain ⟨hi, _, e2⟩ := wordAt_way ok h
  rw [codesL_get (by omega), e2] at e
  exact codes_apart ok.good.pos (show m < st.1.length by omega) hi (by omega) (by rw [Option.some.inj e]; exact List.prefix_refl _)
/-- what an unpacker waits with: the beginning of the next sign's code, and less than it -/
def Waits (g : List Nat) (st : List Int × List Nat) (w : List Nat) (rest : Word) : Prop := match w with
  | [] => rest = []
  | c :: _ => rest <+: wordAt g st.1 c
theorem packS_drop {g : List Nat} {z : Nat} {cap : Int} {st : List Int × List Nat} {w : List Nat} {i c : Nat} (h : w[i]? = some c) : packS g z cap (runS g z cap st (w.take i)) (w.drop i) = wordAt g (runS g z cap st (w.take i)).1 c ++ packS g z cap (runS g z cap st (w.take (i + 1))) (w.drop (i + 1)) := by
  obtain ⟨hi, e⟩ := List.getElem?_eq_some_iff.mp h
  rw [List.drop_eq_getElem_cons hi, e, take_succ h, runS_app]
  rfl
theorem packS_take {g : List Nat} {z : Nat} {cap : Int} {st : List Int × List Nat} {w : List Nat} {i c : Nat} (h : w[i]? = some c) : packS g z cap st (w.take (i + 1)) = packS g z cap st (w.take i) ++ wordAt g (runS g z cap st (w.take i)).1 c := by
  rw [take_succ h, packS_app]
  show _ ++ (wordAt g _ c ++ []) = _
  rw [List.append_nil]
theorem run_take_succ {g : List Nat} {z : Nat} {cap : Int} {st : List Int × List Nat} {w : List Nat} {i c : Nat} (h : w[i]? = some c) : runS g z cap st (w.take (i + 1)) = tookS g z cap (runS g z cap st (w.take i)) c := by
  rw [take_succ h, runS_app]
  rfl
/-- unlike texts: neither's bits begin the other's -/
theorem packs_apart {g : List Nat} {z : Nat} {cap : Int} (b : BookOk g z cap) : ∀ {v w : List Nat} {st : List Int × List Nat}, StOk g z st → (∀ c ∈ v, c ∈ g) → (∀ c ∈ w, c ∈ g) → v.length = w.length → v ≠ w → ¬ packS g z cap st v <+: packS g z cap st w
  | [], [], _, _, _, _, _, h => fun _ => h rfl
  | c :: v, d :: w, st, ok, hv, hw, hl, hne => by
    intro hp
    have hc := hv c List.mem_cons_self
    have hd := hw d List.mem_cons_self
    have hp' : wordAt g st.1 c ++ packS g z cap (tookS g z cap st c) v <+: wordAt g st.1 d ++ packS g z cap (tookS g z cap st d) w := hp
    by_cases e : c = d
    · subst e
      exact packs_apart b (tookS_ok b ok) (fun x hx => hv x (List.mem_cons_of_mem _ hx)) (fun x hx => hw x (List.mem_cons_of_mem _ hx)) (by simpa using hl) (fun q => hne (by rw [q])) ((List.prefix_append_right_inj _).mp hp')
    · have h1 : wordAt g st.1 c <+: wordAt g st.1 d ++ packS g z cap (tookS g z cap st d) w := (List.prefix_append _ _).trans hp'
      have h2 : wordAt g st.1 d <+: wordAt g st.1 d ++ packS g z cap (tookS g z cap st d) w := List.prefix_append _ _
      obtain ⟨hi, _, e1⟩ := wordAt_way ok hc
      obtain ⟨hj, _, e2⟩ := wordAt_way ok hd
      have hij : g.idxOf c ≠ g.idxOf d := fun q => e (by
        have a1 := idx_of hc
        have a2 := idx_of hd
        rw [q, a2] at a1
        exact (Option.some.inj a1).symm)
      rcases List.prefix_or_prefix_of_prefix h1 h2 with q | q
      · rw [e1, e2] at q
        exact codes_apart ok.good.pos hi hj hij q
      · rw [e1, e2] at q
        exact codes_apart ok.good.pos hj hi (Ne.symm hij) q
/-! ### unpackers -/
def UnpAt (C : Addr) (H : Hp) (k p b : Addr) (left : Nat) (rest : Word) : Prop := ∃ dx, H k = some (.ins C dx [("book", .ref b), ("learner", .ref p), ("left", .int (left : Int)), ("rest", .str (S rest))])
theorem UnpAt.same {C : Addr} {H H' : Hp} {k p b : Addr} {left : Nat} {rest : Word} (h : UnpAt C H k p b left rest) (s : Same H H') : UnpAt C H' k p b left rest := let ⟨dx, e⟩ := h; ⟨dx, s _ _ e⟩
theorem UnpAt.but {C : Addr} {H H' : Hp} {k p b q : Addr} {left : Nat} {rest : Word} (h : UnpAt C H k p b left rest) (s : SameP q H H') (n : k ≠ q) : UnpAt C H' k p b left rest := let ⟨dx, e⟩ := h; ⟨dx, s _ _ n e⟩
end Sp
/-! ## Unpacking any bits -/
namespace Sp
open PySem PySem.Spec PyProof.Rows L2
abbrev St2 := List Int × List Nat
/-- the sign whose code is w -/
def signOf (g : List Nat) (ns : List Int) (w : Word) : Nat := g.getD ((codesL ns).idxOf w) 0
theorem sign_is {g : List Nat} {z : Nat} {cap : Int} {st : St2} {w : Word} (b : BookOk g z cap) (ok : StOk g z st) (h : w ∈ codesL st.1) : signOf g st.1 w ∈ g ∧ w = wordAt g st.1 (signOf g st.1 w) ∧ (codesL st.1)[(codesL st.1).idxOf w]? = some w ∧ g[(codesL st.1).idxOf w]? = some (signOf g st.1 w) ∧ ∀ m, m < (codesL st.1).idxOf w → (codesL st.1)[m]? ≠ some w := by
  have hl := List.idxOf_lt_length_of_mem h
  have hg : (codesL st.1).idxOf w < g.length := by rw [codesL_len, ok.len] at hl; exact hl
  have e1 : g[(codesL st.1).idxOf w]? = some (signOf g st.1 w) := by
    unfold signOf
    rw [List.getD_eq_getElem?_getD, List.getElem?_eq_getElem hg]
    rfl
  have m1 : signOf g st.1 w ∈ g := List.mem_of_getElem? e1
  have e2 : (codesL st.1)[(codesL st.1).idxOf w]? = some w := by rw [List.getElem?_eq_getElem hl, List.getElem_idxOf hl]
  have e3 : g.idxOf (signOf g st.1 w) = (codesL st.1).idxOf w := nodup_at b.nd (idx_of m1) e1
  have e4 : w = wordAt g st.1 (signOf g st.1 w) := by
    have q := (wordAt_way ok m1).2.1
    rw [e3, e2] at q
    exact Option.some.inj q
  refine ⟨m1, e4, e2, e1, fun m hm e => ?_⟩
  have q := wordAt_first ok m1 m (by rw [e3]; exact hm)
  rw [← e4] at q
  exact q e
theorem sign_word {g : List Nat} {z : Nat} {cap : Int} {st : St2} {c : Nat} (b : BookOk g z cap) (ok : StOk g z st) (h : c ∈ g) : signOf g st.1 (wordAt g st.1 c) = c := by
  obtain ⟨_, _, _, e1, hf⟩ := sign_is b ok (wordAt_mem ok h)
  have q := (wordAt_way ok h).2.1
  have e2 : (codesL st.1).idxOf (wordAt g st.1 c) = g.idxOf c := by
    rcases Nat.lt_trichotomy ((codesL st.1).idxOf (wordAt g st.1 c)) (g.idxOf c) with l | l | l
    · have hl := List.idxOf_lt_length_of_mem (wordAt_mem ok h)
      exact (wordAt_first ok h _ l (by rw [List.getElem?_eq_getElem hl, List.getElem_idxOf hl])).elim
    · exact l
    · exact (hf _ l q).elim
  rw [e2, idx_of h] at e1
  exact (Option.some.inj e1).symm
/-- what is told of the bits: the signs, the state behind them, the bits of a sign that is not whole, those behind the last sign -/
structure UnpR where
  told : List Nat
  st : St2
  word : Word
  rest : Word
def unpS (g : List Nat) (z : Nat) (cap : Int) : Nat → St2 → Nat → Word → Word → UnpR
  | 0, st, _, word, bits => ⟨[], st, word, bits⟩
  | n + 1, st, left, word, bits =>
    if left = 0 then ⟨[], st, word, bits⟩ else
    if word ∈ codesL st.1 then
      let r := unpS g z cap n (tookS g z cap st (signOf g st.1 word)) (left - 1) [] bits
      ⟨signOf g st.1 word :: r.told, r.st, r.word, r.rest⟩
    else match bits with
      | [] => ⟨[], st, word, []⟩
      | d :: ds => unpS g z cap n st left (word ++ [d]) ds
section
variable {g : List Nat} {z : Nat} {cap : Int} {n left : Nat} {st : St2} {word bits : Word}
theorem unp_zero : unpS g z cap n st 0 word bits = ⟨[], st, word, bits⟩ := by cases n <;> rfl
theorem unp_sign (hl : left ≠ 0) (hw : word ∈ codesL st.1) : unpS g z cap (n + 1) st left word bits = ⟨signOf g st.1 word :: (unpS g z cap n (tookS g z cap st (signOf g st.1 word)) (left - 1) [] bits).told, (unpS g z cap n (tookS g z cap st (signOf g st.1 word)) (left - 1) [] bits).st, (unpS g z cap n (tookS g z cap st (signOf g st.1 word)) (left - 1) [] bits).word, (unpS g z cap n (tookS g z cap st (signOf g st.1 word)) (left - 1) [] bits).rest⟩ := by
  show (if left = 0 then _ else if word ∈ codesL st.1 then _ else _) = _
  rw [if_neg hl, if_pos hw]
theorem unp_bit {d : Nat} {ds : Word} (hl : left ≠ 0) (hw : word ∉ codesL st.1) : unpS g z cap (n + 1) st left word (d :: ds) = unpS g z cap n st left (word ++ [d]) ds := by
  show (if left = 0 then _ else if word ∈ codesL st.1 then _ else _) = _
  rw [if_neg hl, if_neg hw]
theorem unp_stop (hw : word ∉ codesL st.1) : unpS g z cap n st left word [] = ⟨[], st, word, []⟩ := by
  cases n with
  | zero => rfl
  | succ n =>
    show (if left = 0 then _ else if word ∈ codesL st.1 then _ else _) = _
    rw [if_neg hw]
    split <;> rfl
/-- a sign's code, its beginning p being there -/
theorem unp_code (b : BookOk g z cap) (ok : StOk g z st) {c : Nat} (hc : c ∈ g) : ∀ (q p : Word) (n left : Nat) (ex : Word), p ++ q = wordAt g st.1 c → left ≠ 0 →
    unpS g z cap (n + 1 + q.length) st left p (q ++ ex) = ⟨c :: (unpS g z cap n (tookS g z cap st c) (left - 1) [] ex).told, (unpS g z cap n (tookS g z cap st c) (left - 1) [] ex).st, (unpS g z cap n (tookS g z cap st c) (left - 1) [] ex).word, (unpS g z cap n (tookS g z cap st c) (left - 1) [] ex).rest⟩
  | [], p, n, left, ex, e, hl => by
    rw [List.append_nil] at e
    subst e
    rw [List.nil_append, List.length_nil, Nat.add_zero, unp_sign hl (wordAt_mem ok hc), sign_word b ok hc]
  | d :: q, p, n, left, ex, e, hl => by
    have hp : p <+: wordAt g st.1 c := ⟨d :: q, e⟩
    have hn : p ∉ codesL st.1 := fun hm => by
      have e2 := word_is ok hc hm hp
      rw [← e] at e2
      have := congrArg List.length e2
      rw [List.length_append, List.length_cons] at this
      omega
    have ih := unp_code b ok hc q (p ++ [d]) n left ex (by rw [List.append_assoc, List.singleton_append]; exact e) hl
    rw [List.length_cons, List.cons_append, ← Nat.add_assoc, unp_bit hl hn]
    exact ih
/-- packed signs, and more behind them -/
theorem unp_pack (b : BookOk g z cap) : ∀ (w : List Nat) (st : St2) (n k : Nat) (ex : Word), StOk g z st → (∀ c ∈ w, c ∈ g) →
    unpS g z cap (n + w.length + (packS g z cap st w).length) st (w.length + k) [] (packS g z cap st w ++ ex) = ⟨w ++ (unpS g z cap n (runS g z cap st w) k [] ex).told, (unpS g z cap n (runS g z cap st w) k [] ex).st, (unpS g z cap n (runS g z cap st w) k [] ex).word, (unpS g z cap n (runS g z cap st w) k [] ex).rest⟩
  | [], st, n, k, ex, _, _ => by
    show unpS g z cap n st (0 + k) [] ex = _
    rw [Nat.zero_add]
    rfl
  | c :: w, st, n, k, ex, ok, h => by
    have hc := h c List.mem_cons_self
    have ih := unp_pack b w (tookS g z cap st c) n k ex (tookS_ok b ok) fun d hd => h d (List.mem_cons_of_mem _ hd)
    show unpS g z cap (n + (w.length + 1) + (wordAt g st.1 c ++ packS g z cap (tookS g z cap st c) w).length) st (w.length + 1 + k) [] ((wordAt g st.1 c ++ packS g z cap (tookS g z cap st c) w) ++ ex) = _
    have e := unp_code b ok hc (wordAt g st.1 c) [] (n + w.length + (packS g z cap (tookS g z cap st c) w).length) (w.length + 1 + k) (packS g z cap (tookS g z cap st c) w ++ ex) rfl (by omega)
    rw [List.length_append, List.append_assoc, show n + (w.length + 1) + ((wordAt g st.1 c).length + (packS g z cap (tookS g z cap st c) w).length) = n + w.length + (packS g z cap (tookS g z cap st c) w).length + 1 + (wordAt g st.1 c).length by omega, e, show w.length + 1 + k - 1 = w.length + k by omega, ih]
    rfl
theorem codes_none (ok : StOk g z st) (h2 : 2 ≤ g.length) : ([] : Word) ∉ codesL st.1 := fun hm => by
  obtain ⟨i, hi, e⟩ := codesL_mem hm
  exact codes_full (by rw [ok.len]; exact h2) hi e.symm
/-- how many signs are told, at most -/
theorem unp_len : ∀ (n : Nat) (st : St2) (left : Nat) (word bits : Word), (unpS g z cap n st left word bits).told.length ≤ left
  | 0, _, _, _, _ => Nat.zero_le _
  | n + 1, st, left, word, bits => by
    by_cases hl : left = 0
    · rw [hl, unp_zero]
      exact Nat.le_refl _
    · by_cases hw : word ∈ codesL st.1
      · rw [unp_sign hl hw]
        have := unp_len n (tookS g z cap st (signOf g st.1 word)) (left - 1) [] bits
        show _ + 1 ≤ left
        omega
      · cases bits with
        | nil => rw [unp_stop hw]; exact Nat.zero_le _
        | cons d ds =>
          rw [unp_bit hl hw]
          exact unp_len n st left _ _
end
end Sp
/-! ## Refusals: several clauses with names, the caught error seen by a def -/
namespace Sp
open PySem PySem.Spec PyProof.Rows L2
/-- a caught error, as a thing that is known -/
def ExO (a : Addr) (oe : Obj) : HO := .ext fun h => h.get? a = some oe
section
variable {P : Program} {w : World} {K : PySem.W.Frag} {mg : Str → Option Value} {base : Heap} {A : Around} {outer : List Env} {s s' : Shared} {H : Hp} {a : Addr} {oe : Obj}
theorem env0_seen (e : Env0 P w K mg base A outer s H) (ha : H a = none) (hs : s.heap.get? a = some oe) (hb : base.get? a = none) (hf : a ∉ frs outer) : Env0 P w K mg base A outer s (upd H a (ExO a oe)) := by
  refine ⟨e.frames, e.mod, fun c o q => ⟨(e.bs c o q).1, ?_⟩, e.bsz, e.funs, fun c hc => ?_, fun c o q => ?_, e.bare⟩
  · rw [upd_ne (fun z => by rw [z, hb] at q; cases q)]
    exact (e.bs c o q).2
  · rw [upd_ne (fun z => hf (by rw [← z]; exact hc))]
    exact e.frf c hc
  · by_cases hc : c = a
    · subst hc
      rw [upd_same] at q
      cases q
      exact ⟨hs, ⟨oe, hs⟩, fun h1 h2 e1 k => k _ e1⟩
    · rw [upd_ne hc] at q
      exact (e.hok c o q).stay (fun _ _ _ z => z) (fun d z => by rw [upd_ne (ne_of_none z ha)]; exact z) fun d xs z => by rw [upd_ne (ne_of_none z ha)]; exact z
theorem ce_unseen {Q Q' : VK} {u : Value} (ha : H a = none) (hs : s.heap.get? a = some oe) (hf : a ∉ frs outer) (c : CE outer P w (upd H a (ExO a oe)) s Q' u s') (hq : ∀ v H', Q' v H' → H' = upd H a (ExO a oe) ∧ Q v H) : CE outer P w H s Q u s' := by
  obtain ⟨v, H', os, bare, un, hok, r, q⟩ := c
  obtain ⟨e1, qq⟩ := hq v H' q
  subst e1
  obtain ⟨ea, _, _⟩ := hok a _ upd_same
  refine ⟨v, H, os, bare, ⟨fun c o e n h1 h2 => ?_, fun c o e n h1 h2 => un.slot c o e (by rw [upd_ne (fun z => hf (by rw [← z]; exact h1))]; exact n) h1 h2, fun c o e n _ => n, un.there, fun _ _ e => e, fun _ _ _ e => e, fun c ps e => ⟨#[], by rw [e]; simp⟩⟩, fun c o e => ?_, r, qq⟩
  · by_cases hc : c = a
    · subst hc
      rw [hs] at e
      cases e
      exact ea
    · exact un.keep c o e (by rw [upd_ne hc]; exact n) h1 h2
  · have hc : c ≠ a := ne_of_none e ha
    have nx : ∀ d u, (∀ φ, u ≠ HO.ext φ) → upd H a (ExO a oe) d = some u → H d = some u := fun d u nu z => by
      rw [upd_ne (fun y => by rw [y, upd_same] at z; exact nu _ (Option.some.inj z).symm)] at z
      exact z
    exact (hok c o (by rw [upd_ne hc]; exact e)).stay (fun _ _ _ z => z) (fun d z => nx d _ (fun φ y => by cases y) z) fun d xs z => nx d _ (fun φ y => by cases y) z
end

/-! ### a def that is called while an error is handled: nothing in it is raised, no loop ends in it -/
structure RoomE (k : Nat) (A : Around) : Prop where
  dp : A.depth + 3 * k + 5 < recursionLimit
  un : A.units + 16 * k + 200 < cLine
structure FnE (P : Program) (w : World) (K : PySem.W.Frag) (mg : Str → Option Value) (base : Heap) (k : Nat) (f : Addr) (fd : FuncData) (ps : List Str) (sp : Sp) : Prop where
  len : ∀ vs H Q E, sp vs H Q E → vs.length = ps.length
  run : ∀ (A : Around) (outer : List Env) (s : Shared) (H : Hp) (args : Args) (us : List Value) (vs : List V) (Q : VK), RoomE k A → Env0 P w K mg base A outer s H → BindsTo s fd args (ps.zip us) → Vals vs us → sp vs H Q E0 →
    codeAny (model P w) A (.call (.ref f) args) (CR CX0 outer P w H s Q E0) s
def cxE (P : Program) (w : World) (K : PySem.W.Frag) (mg : Str → Option Value) (base : Heap) (N : List Str) (qual : Str) (scope : Scope) (f : Addr) (cd : Value) (A : Around) (outer : List Env) (s : Shared) (H : Hp) : Cx :=
  { cxOf CX0 P w K mg base N qual scope f cd A outer s H E0 with calm := false }
theorem inv_startE {P : Program} {w : World} {K : PySem.W.Frag} {mg : Str → Option Value} {base : Heap} {N : List Str} {qual : Str} {scope : Scope} {f : Addr} {cd : Value} {A : Around} {outer : List Env} {s s1 : Shared} {H : Hp} {σ : L2.St}
    (J : Inv (cxOf CX0 P w K mg base N qual scope f cd { A with handled := none } outer s H E0) [] σ H s1) : Inv (cxE P w K mg base N qual scope f cd A outer s H) [] σ H s1 := by
  have k := J.ok
  exact ⟨⟨k.mod, k.kind, k.glob, k.blt, k.above, k.inj, k.has, k.cab, fun z => absurd (show false = true from z) Bool.false_ne_true, k.frames, k.stk, k.exf, k.bs, k.bsz, k.noex, k.exfs, k.funs, k.frf⟩, J.os, J.bare, J.base, J.loc, J.cell, J.free, J.freeC, J.pin, J.hok, J.len⟩
theorem fnE_of {P : Program} {w : World} {K : PySem.W.Frag} {mg : Str → Option Value} {base : Heap} {k : Nat} {f : Addr} {name qual : Str} {params : Arguments} {body : List Stmt} {scope : Scope} {dV kV doc pm cdv ct oc : Value} {an od : Option Addr}
    {osl : Array (Option Value)} {N ps : List Str} {sp : Sp} (lk : K.lookup f = some ⟨oc, od, .func (PySem.W.fnOf name qual params body scope dV kV doc pm an cdv ct), osl⟩) (hcd : PySem.W.codeIn K cdv qual = true) (S : FnScope N ps scope)
    (len : ∀ vs H Q E, sp vs H Q E → vs.length = ps.length)
    (hbody : ∀ (A : Around) (outer : List Env) (s : Shared) (H : Hp) (vs : List V) (Q : VK), RoomE k (A.deeper (envOfC qual scope s.heap.objs.size f cdv)) → sp vs H Q E0 →
      ∃ t, PSs (cxE P w K mg base N qual scope f cdv A outer s H) body t ∧ t { nx := fun _ H' => Q .non H', rt := Q } (L2.start N vs) H) :
    FnE P w K mg base (k + 1) f (PySem.W.fnOf name qual params body scope dV kV doc pm an cdv ct) ps sp := by
  refine ⟨len, fun A outer s H args us vs Q hr e0 hb r hsp => ?_⟩
  have hlen := len _ _ _ _ hsp
  have inK : K.In s.heap := e0.mod.kin.keeps fun b o e => (e0.bs b o e).1
  have free : s.heap.NoLimit := e0.mod.nolimit.keeps fun b o e => (e0.bs b o e).1
  have kinds : ∀ y ∈ ps.zip us, scope.names.lookup y.1 = some .local ∨ (scope.names.lookup y.1 = some .cell ∧ ((cellsFrom (s.heap.objs.size + 1) scope.names []).lookup y.1).isSome = true) := fun ⟨n, v⟩ hy =>
    (S.par n (List.of_mem_zip hy).1).elim .inl fun q => .inr ⟨q, PySem.W.cellsFrom_some _ _ _ (.inl q)⟩
  have dp : A.depth < recursionLimit := by have := hr.dp; omega
  refine codeAny_call_function dp (inK _ _ lk) rfl S.co S.gen rfl (PySem.W.codeRec_of inK hcd) (hb _ _ _ _ (wpAny_newFunctionEnv_cells S.kind kinds fun env he s1 x => ?_))
  subst he
  refine ⟨free.keeps x.toInCall.keep, codeAny_func ?_⟩
  obtain ⟨t, ht, hq⟩ := hbody A outer s H vs Q ⟨by have := hr.dp; show A.depth + 1 + 3 * k + 5 < _; omega, by have := hr.un; show A.units + 3 + 16 * k + 200 < _; omega⟩ hsp
  have e1 : Env0 P w K mg base { A with handled := none } outer s H := ⟨e0.frames, e0.mod, e0.bs, e0.bsz, e0.funs, e0.frf, e0.hok, e0.bare⟩
  refine wpAny_mono (ht.run [] s1 (L2.start N vs) H _ (inv_startE (inv_start S rfl e1 hlen r x)) hq) (fun fl s' hs => ?_) fun e s' hs => hs
  cases fl with
  | ret u =>
    obtain ⟨v, σ', H', J, rv, q⟩ := hs
    exact ⟨v, H', J.os, J.bare, J.base, J.hok, rv, q⟩
  | next =>
    obtain ⟨σ', H', J, q⟩ := hs
    exact ⟨V.non, H', J.os, J.bare, J.base, J.hok, rfl, q⟩
  | brk =>
    obtain ⟨_, _, _, q⟩ := hs
    exact False.elim q
  | cont =>
    obtain ⟨_, _, _, q⟩ := hs
    exact False.elim q
theorem _root_.L2.Fun.okE {P : Program} {w : World} {K : PySem.W.Frag} {mg : Str → Option Value} {base : Heap} {x qual : Str} {st : Stmt} {f : Addr} {fd : FuncData} {N ps : List Str} {k : Nat} {sp : Sp} (F : Fun K x qual st f fd) (S : FnScope N ps (defScope st)) (len : ∀ vs H Q E, sp vs H Q E → vs.length = ps.length)
    (hbody : ∀ (cdv : Value) (A : Around) (outer : List Env) (s : Shared) (H : Hp) (vs : List V) (Q : VK), RoomE k (A.deeper (envOfC qual (defScope st) s.heap.objs.size f cdv)) → sp vs H Q E0 →
      ∃ t, PSs (cxE P w K mg base N qual (defScope st) f cdv A outer s H) (defBody st) t ∧ t { nx := fun _ H' => Q .non H', rt := Q } (L2.start N vs) H) : FnE P w K mg base (k + 1) f fd ps sp := by
  obtain ⟨oc, od, kV, doc, pm, an, cdv, ct, osl, rfl, lk, hcd⟩ := F.ex
  exact fnE_of lk hcd S len fun A outer s H vs Q hr hsp => hbody cdv A outer s H vs Q hr hsp

/-! ### within a suite -/
/-- x(..), the caught error at a known to the callee -/
def tCallE (a : Addr) (cls : Value) (d : Option Addr) (sp : Sp) (t : TA) : TE := fun σ H Q => t σ H fun vs H1 => ∀ oe, Zc cls d oe → (∃ fs, oe.data = .fields fs) → sp vs (upd H1 a (ExO a oe)) (fun v H2 => H2 = upd H1 a (ExO a oe) ∧ Q v H1) E0
section
variable {X : Cx} {k : Nat} {f a : Addr} {oe : Obj} {pn : List (Addr × Obj)} {cls : Value} {d : Option Addr} {fd : FuncData} {ps : List Str} {sp : Sp} {x : Str} {p pos : Pos} {e : Expr} {es : List Expr} {t : TA}
theorem pe_callE (F : FnE X.prog X.w X.K X.mg X.base k f fd ps sp) (hr : RoomE k X.A) (hz : Zc cls d oe) (hfl : ∃ fs, oe.data = .fields fs) (hbs : X.base.get? a = none) (hg : Gl X x) (hm : X.mg x = some (.ref f)) (hk : PySem.W.keepIn X.K (.ref f) = true) (hb : Binds X.K fd ps [])
    (ha : PA (X.suite a ((a, oe) :: pn)) (e :: es) t) (hdb : (x == ("__debug__" : Str)) = false := by decide) (he : starEach (e :: es) X.env = (false, eval e X.env) :: starEach es X.env := by rfl) (hpl : (backTo pos (starEach es X.env)).any (·.1) = false := by rfl) :
    PE (X.suite a ((a, oe) :: pn)) (.Call (.Name x p) (e :: es) [] pos) (tCallE a cls d sp t) := by
  refine ⟨fun pins s σ H Q I h => ?_⟩
  refine wpAny_Call_Name_kw (ld_glob I hg hm ?_ hdb)
  refine PySem.W.callWith_K (h₀ := X.base) I.ok.mod.kin hk (thn (ha.run pos pins s σ H _ I h) fun us s1 hh => ?_) he hpl
  obtain ⟨vs, H1, I1, r, q⟩ := hh
  refine ⟨I1.kIn, ?_⟩
  have q := q oe hz hfl
  obtain ⟨g1, g2, g3, g4, _⟩ := I1.pin (a, oe) (List.mem_append_left _ List.mem_cons_self)
  have hfr : a ∉ frs X.stack := fun hm => (List.mem_cons.mp (I1.stkSub a hm)).elim g3 g4
  have hl : us.length = ps.length := by rw [← r.length]; exact F.len _ _ _ _ q
  have b := hb s1 us I1.kIn (by rw [List.append_nil]; exact hl)
  rw [List.append_nil] at b
  refine wpAny_call (codeAny_mono (F.run (X.A.mark (some (.ref a))) X.stack s1 (upd H1 a (ExO a oe)) ⟨us, []⟩ us vs _ ⟨hr.dp, hr.un⟩ (env0_seen I1.env0 g2 g1 hbs hfr) b r q) fun rr s' hq => ?_)
  cases rr with
  | error e => exact (show False from hq).elim
  | ok fl =>
    cases fl with
    | ret u => exact I1.after (ce_unseen g2 g1 hfr hq fun v H' z => z)
    | next => exact False.elim hq
    | brk => exact False.elim hq
    | cont => exact False.elim hq
end
/-- isinstance(e, c), e a known caught error -/
def rIsX (K : PySem.W.Frag) : List V → Hp → VK → Prop := fun xs H Q => ∃ (a D : Addr) (oe : Obj) (c : V) (cv : Value) (b : Bool), xs = [.ref a, c] ∧ H a = some (ExO a oe) ∧ Zc (.ref D) none oe ∧ (∃ fs, oe.data = .fields fs) ∧ ExcC K D ∧ (∀ u, RelV c u → u = cv) ∧ PySem.W.kitOne K (.ref D) cv = some b ∧ Q (.bl b) H
theorem call_isX {X : Cx} {K : PySem.W.Frag} (hK : X.K = K := by rfl) : CallR X (.builtin "isinstance") (rIsX K) := by
  subst hK
  intro pins s σ H xs us Q I r h
  obtain ⟨a, D, oe, c, cv, b, rfl, ho, ⟨hz1, hz2⟩, ⟨fs, hv⟩, C, hcv, e, q⟩ := h
  cases r with
  | cons rx rr =>
    cases rr with
    | cons rt rr =>
      cases rr
      cases rx
      have ec := hcv _ rt
      subst ec
      obtain ⟨hget, _, _⟩ := I.hok a _ ho
      have J : PySem.W.InstAt s.heap a oe D none := by
        obtain ⟨oc, od, oda, osl⟩ := oe
        dsimp only at hz1 hz2 hv
        subst hz1 hz2 hv
        exact ⟨hget, rfl, rfl, trivial⟩
      exact PySem.W.kia_one (PySem.W.handS_kitx_exc C.hg C.hk C.hs C.hd C.ha C.hn C.ht C.hm) I.kIn J e (fun z => nomatch z) fun tk => ⟨.bl b, H, I.kept (t' := tk) fun _ _ z => z, rfl, q⟩

/-! ### try: body, except x as n: suite, except y as m: .. -/
abbrev Cls3 := Value × Nat × (Addr → Value → Option Addr → TS)
/-- behind a suite the name is gone -/
def D_as (D : Ends) (i : Nat) : Ends := { nx := fun σ' H' => D.nx (σ'.set i none) H', rt := D.rt, bk := fun σ' H' => D.bk (σ'.set i none) H', ct := fun σ' H' => D.ct (σ'.set i none) H' }
def wAsMany (K : PySem.W.Frag) (Wout : WX) (D : Ends) : List Cls3 → WX
  | [] => Wout
  | (c, i, ts) :: r => fun cls d σ H => ∃ b, PySem.W.exmOne K cls c = some b ∧ (b = true → ∀ a, H a = none → ts a cls d (D_as D i) (σ.set i (some (.ref a))) H) ∧ (b = false → wAsMany K Wout D r cls d σ H)
inductive HdsAs (X : Cx) : List ExceptHandler → List Cls3 → Prop
  | nil : HdsAs X [] []
  | cons {x n : Str} {c : Value} {i : Nat} {ts : Addr → Value → Option Addr → TS} {b₀ : Stmt} {suite : List Stmt} {np pos' : Pos} {hds : List ExceptHandler} {l : List Cls3} (hc : Names X x c) (hi : X.N[i]? = some n) (hln : X.env.kindOf n = some .local)
      (hsu : ∀ (a : Addr) (oe : Obj) (cls : Value) (d : Option Addr) (pn : List (Addr × Obj)), Zc cls d oe → (∃ fs, oe.data = .fields fs) → X.base.get? a = none → PSs (X.suite a ((a, oe) :: pn)) (b₀ :: suite) (ts a cls d)) (r : HdsAs X hds l) :
      HdsAs X (.ExceptHandler (some (.Name x np)) (some n) (b₀ :: suite) pos' :: hds) ((c, i, ts) :: l)
def tTryAs (K : PySem.W.Frag) (Wout : WX) (l : List Cls3) (tb : WX → TS) : TS := fun D σ H => tb (wAsMany K Wout D l) D σ H
section
variable {X : Cx} {body : List Stmt} {h₀ : ExceptHandler} {hds : List ExceptHandler} {l : List Cls3} {pos : Pos} {tb : WX → TS} {Wout : WX}
theorem ps_try_asMany (hs : X.stack = X.env :: X.outer) (hf : X.env.frame = some X.env.locals) (hN : X.N.Nodup) (tk : Takes X Wout)
    (hb : ∀ (W : WX) (pn : List (Addr × Obj)) (xe : Value → Shared → Prop), Takes (X.tr pn xe) W → PassesOwn (model X.prog X.w) X.A X.env xe → PSs (X.tr pn xe) body (tb W))
    (hh : HdsAs X (h₀ :: hds) l) : PS X (.Try body (h₀ :: hds) [] [] pos) (tTryAs X.K Wout l tb) := by
  refine ⟨fun pins s σ H D I h => ?_⟩
  have ok := I.ok
  have frames : X.A.frames = some (X.env :: X.outer) := by rw [ok.frames, hs]
  refine wpAny_Try_except (wpAny_mono ((hb (wAsMany X.K Wout D l) (X.pn ++ pins) _ (fun u s' xx => ?_) PassesOwn.looking).run [] s σ H D (I.toTry _) h) (fun f s1 q => ?_) fun e s1 he => he)
  · obtain ⟨a, B, sI, pins', σ', H', cls, d, rfl, J', nb, up, sky, na, os, ag, w⟩ := xx
    have J : Inv X pins σ' H' sI := J'.ofTry ok
    rw [show (X.tr (X.pn ++ pins) _).stack = X.env :: X.outer from hs] at sky
    have noB : X.base.get? a = none := by
      cases e : X.base.get? a with
      | none => rfl
      | some o =>
        have inB := nb a o (J.bk a o e) fun hm => by
          have z := (J.stack.mem hm).1
          rw [e] at z
          cases z
        have nB : B.get? a = none := by
          rcases sky with ⟨_, z, _⟩ | z | z
          · exact z
          · exact z.2.1
          · exact z.2.1
        rw [nB] at inB
        cases inB
    show wpAny (model X.prog X.w) X.A (noteFrame (.ref a) X.env) _ _ _
    refine Sky.land Zc.steady frames hf sky fun h3 fl3 up3 => ?_
    obtain ⟨oe3, vs3, he3, hz3, hd3⟩ := fl3.there
    have J3 : Inv X pins σ' H' { s' with heap := h3 } := J.landed nb fl3.1 (up.trans up3) os ag
    have notF : a ∉ frs (X.env :: X.outer) := fun hm => by
      obtain ⟨_, o', e', hnf⟩ := fl3.2.2.1.mem hm
      rw [he3] at e'
      cases e'
      exact hnf _ hd3
    have nL : a ≠ X.env.locals := fun z => notF (List.mem_filterMap.mpr ⟨X.env, List.mem_cons_self, by rw [hf, z]⟩)
    have nF : a ∉ X.fs := fun hm => by
      obtain ⟨e, he, q⟩ := List.mem_filterMap.mp hm
      exact notF (List.mem_filterMap.mpr ⟨e, List.mem_cons_of_mem _ he, q⟩)
    have S3 := J3.suite he3 hd3 na nL nF
    have go : ∀ {hds' : List ExceptHandler} {l' : List Cls3}, HdsAs X hds' l' → wAsMany X.K Wout D l' cls d σ' H' → wpAny (model X.prog X.w) X.A (handleBy (.ref a) X.env hds') (SP X pins D) X.xe { s' with heap := h3 } := by
      intro hds' l' hk
      induction hk with
      | nil =>
        intro w
        refine wpAny_handleBy_nil ?_
        obtain ⟨k1, k2, k3, oe, vs, T, oT, ts', he, hz, hd, h1, hr⟩ := id fl3
        unfold PySem.passOn
        refine wpAny_bind (wpAny_field he hd h1 ?_)
        rw [if_neg (show ¬ ((Value.ref T == Value.none) = true) from by simp)]
        have fin : wpAny (model X.prog X.w) X.A (setFlight (.ref a) X.env.frame) (fun _ s4 => wpAny (model X.prog X.w) X.A (throw (.ref a) : Sem Flow) (SP X pins D) X.xe s4) X.xe { s' with heap := h3 } := by
          rw [hf]
          exact HandSPX.setFlight_upZ fl3 fun h4 hh4 up4 => wpAny_throw (tk _ _ ⟨a, B, sI, pins, σ', H', cls, d, rfl, J, nb, (up.trans up3).trans up4, .inr (.inr (by rw [hs]; exact hh4)), na, os, ag, w⟩)
        first
          | exact wpAny_bind (wpAny_pure (wpAny_bind fin))
          | exact wpAny_bind fin
      | @cons x n c i ts b₀ suite np pos' hds2 l2 hc hi hln hsu r ih =>
        intro w
        obtain ⟨b, hb1, hyes, hno⟩ := w
        refine wpAny_handleBy_cons (codeAny_handlers_test ?_) (by intro q; cases q)
        have isT : PySem.W.Looks (model X.prog X.w) h3 (typeOf (.ref a)) cls := fun A Q E s k q => wpAny_typeOf_ref (k _ _ he3) (by rw [hz3.1]; exact q)
        have isM := PySem.W.exm_one (M := model X.prog X.w) (J3.kIn) isT hb1
        have test : ∀ {Q : Value → Shared → Prop} {E : Value → Shared → Prop}, Q c { s' with heap := h3 } → wpAny (model X.prog X.w) (X.A.mark (some (.ref a))) (eval (.Name x np) X.env) Q E { s' with heap := h3 } := fun {Q E} q => by
          obtain ⟨hg, hdbg, hm | ⟨hm, hv, hnn⟩⟩ := hc
          · exact ld_glob (X := X.suite a ((a, oe3) :: (X.pn ++ pins))) S3 hg hm q hdbg
          · exact ld_blt (X := X.suite a ((a, oe3) :: (X.pn ++ pins))) S3 hg hm hv q hnn hdbg
        refine test (isM.here ?_)
        cases b with
        | true =>
          refine codeAny_handlers_suite_as (HandSPX.lands_againZ fl3 fun h4 fl4 up4 => ?_)
          obtain ⟨oe4, vs4, he4, hz4, hd4⟩ := fl4.there
          have J4 : Inv X pins σ' H' { s' with heap := h4 } := J.landed nb fl4.1 ((up.trans up3).trans up4) os ag
          refine store_ok (X := X.suite a ((a, oe4) :: (X.pn ++ pins))) (v := .ref a) (J4.suite he4 hd4 na nL nF) hN hi (.inl hln) rfl (fun s5 S5 => ?_) (.inr hln)
          refine wpAny_mono ((hsu a oe4 cls d (X.pn ++ pins) hz4 ⟨_, hd4⟩ noB).run [] s5 _ H' _ S5 (hyes rfl a na)) (fun f s6 q => ?_) (fun _ _ z => False.elim z)
          have gone : ∀ {σ6 : L2.St} {H6 : Hp} {Q : Shared → Prop}, Inv (X.suite a ((a, oe4) :: (X.pn ++ pins))) [] σ6 H6 s6 → (∀ s7, Inv X pins (σ6.set i none) H6 s7 → Q s7) →
              wpAny (model X.prog X.w) X.A (do bindName X.env n .none; unbindBehindTheSuite X.env n pos') (fun _ s7 => Q s7) X.xe s6 := fun {σ6 H6 Q} S6 hq => gone_ok (S6.unsuite ok) hN hi hln hq
          cases f with
          | ret u =>
            obtain ⟨v6, σ6, H6, S6, r6, q6⟩ := q
            exact gone S6 fun s7 J7 => ⟨_, _, _, J7, r6, q6⟩
          | next =>
            obtain ⟨σ6, H6, S6, q6⟩ := q
            exact gone S6 fun s7 J7 => ⟨_, _, J7, q6⟩
          | brk =>
            obtain ⟨σ6, H6, S6, q6⟩ := q
            exact gone S6 fun s7 J7 => ⟨_, _, J7, q6⟩
          | cont =>
            obtain ⟨σ6, H6, S6, q6⟩ := q
            exact gone S6 fun s7 J7 => ⟨_, _, J7, q6⟩
        | false => exact ih (hno rfl)
    exact go hh w
  · cases f with
    | ret u =>
      obtain ⟨v, σ', H', J', r, z⟩ := q
      exact ⟨v, σ', H', J'.ofTry ok, r, z⟩
    | next =>
      obtain ⟨σ', H', J', z⟩ := q
      exact wpAny_execs_nil ⟨σ', H', J'.ofTry ok, z⟩
    | brk =>
      obtain ⟨σ', H', J', z⟩ := q
      exact ⟨σ', H', J'.ofTry ok, z⟩
    | cont =>
      obtain ⟨σ', H', J', z⟩ := q
      exact ⟨σ', H', J'.ofTry ok, z⟩
end
/-! ### what leaves a def -/
def tRaise (C : Addr) (E : XK) : TS := fun _ _ H => E (.ref C) none H
section
variable {P : Program} {w : World} {K : PySem.W.Frag} {mg : Str → Option Value} {base : Heap} {N : List Str} {qual : Str} {scope : Scope} {f : Addr} {cd : Value} {A : Around} {outer : List Env} {s : Shared} {H : Hp} {E : XK}
theorem takesX : Takes (cxOf (L2.CX P w) P w K mg base N qual scope f cd A outer s H E) (fun cls d _ H => E cls d H) := takes_of rfl rfl rfl rfl
theorem passX : Passes (L2.CX P w) (cxOf (L2.CX P w) P w K mg base N qual scope f cd A outer s H E) E := passes_call takesX fun _ _ _ _ h => h
end
/-! ### what the written part says of an own class of errors -/
structure XcQ (K : PySem.W.Frag) (C : Addr) : Prop where
  x : PySem.W.excIn K C [.type "ValueError", .type "Exception", .type "BaseException", .type "object"] "ValueError.__new__" = true
  kp : PySem.W.keepIn K (.ref C) = true
  b : PySem.W.subIn K (.ref C) (.type "BaseException") = some true
  t : PySem.W.typeIn K (.ref C) = some (.type "type")
  i : PySem.W.isClsIn K C = true
  c : ExcC K C
  v : PySem.W.subIn K (.ref C) (.type "ValueError") = some true
theorem pmk_x {X : Cx} {C : Addr} {K : PySem.W.Frag} {x m : Str} {j : Nat} {p p2 pos : Pos} (q : XcQ K C) (gC : X.mg x = some (.ref C)) (hg : Gl X x) (hK : X.K = K := by rfl) (hdb : (x == ("__debug__" : Str)) = false := by decide) : PMk X (.Call (.Name x p) [.Constant (.str m) j p2] [] pos) (fun _ H Q => Q (.ref C) none H) := by
  subst hK
  exact pmk_own PySem.F.excBase_ValueError q.x gC q.kp (raises_own q.b q.t) hg hdb
theorem ps_raiseX {X : Cx} {C : Addr} {K : PySem.W.Frag} {E : XK} {x m : Str} {j : Nat} {p p2 pos pos' : Pos} (hc : X.calm = true) (q : XcQ K C) (gC : X.mg x = some (.ref C)) (hg : Gl X x) (tk : Takes X (fun cls d _ H => E cls d H) := by exact takesX) (hK : X.K = K := by rfl) (hdb : (x == ("__debug__" : Str)) = false := by decide) :
    PS X (.Raise (some (.Call (.Name x p) [.Constant (.str m) j p2] [] pos)) none pos') (tRaise C E) := ps_raise hc tk (pmk_x q gC hg hK hdb)
theorem kit_own {K : PySem.W.Frag} {D C : Addr} {b : Bool} (q : XcQ K C) (h : PySem.W.subIn K (.ref D) (.ref C) = some b) (hb : D = C → b = true) : PySem.W.kitOne K (.ref D) (.ref C) = some b := by
  have e2 : ((PySem.W.clsIn K C).isSome && PySem.W.typeIn K (.ref C) == some (.type "type")) = true := by
    rw [show (PySem.W.clsIn K C).isSome = true from q.i, q.t] <;> rfl
  show (if (Value.ref D == Value.ref C) = true then some true else (if ((PySem.W.clsIn K C).isSome && PySem.W.typeIn K (.ref C) == some (.type "type")) = true then PySem.W.subIn K (.ref D) (.ref C) else none)) = some b
  rw [if_pos e2]
  split
  · rename_i e
    rw [hb (Value.ref.inj (beq_iff_eq.mp e))]
  · exact h
theorem kit_of {K : PySem.W.Frag} {D C : Addr} {b : Bool} (q : XcQ K C) (self : PySem.W.subIn K (.ref D) (.ref D) = some true) (h : PySem.W.subIn K (.ref D) (.ref C) = some b) : PySem.W.kitOne K (.ref D) (.ref C) = some b := kit_own q h fun e => by
  subst e
  rw [self] at h
  exact (Option.some.inj h).symm
theorem exm_own {K : PySem.W.Frag} {D C : Addr} {b : Bool} (q : XcQ K C) (h : PySem.W.subIn K (.ref D) (.ref C) = some b) : PySem.W.exmOne K (.ref D) (.ref C) = some b := by
  have e1 : (PySem.W.subIn K (.ref C) (.type "BaseException") == some true) = true := by rw [q.b] <;> rfl
  have e2 : ((PySem.W.clsIn K C).isSome && PySem.W.typeIn K (.ref C) == some (.type "type")) = true := by
    rw [show (PySem.W.clsIn K C).isSome = true from q.i, q.t] <;> rfl
  show (if (PySem.W.subIn K (.ref C) (.type "BaseException") == some true) = true then (if ((PySem.W.clsIn K C).isSome && PySem.W.typeIn K (.ref C) == some (.type "type")) = true then PySem.W.subIn K (.ref D) (.ref C) else none) else none) = some b
  rw [if_pos e1, if_pos e2]
  exact h
theorem kit_ve {K : PySem.W.Frag} {D : Addr} (h : PySem.W.subIn K (.ref D) (.type "ValueError") = some true) : PySem.W.kitOne K (.ref D) (.type "ValueError") = some true := by
  have e1 : PySem.W.kitMeta "ValueError" = true := by decide +kernel
  show (if (Value.ref D == Value.type "ValueError") = true then some true else (if PySem.W.kitMeta "ValueError" = true then PySem.W.subIn K (.ref D) (.type "ValueError") else none)) = some true
  rw [if_pos e1, h]
  split <;> rfl
/-! ### the steps -/
section
variable {K : PySem.W.Frag} {σ : L2.St} {H : Hp} {D : Ends} {Q : VK} {t : TA}
theorem w_raise {C : Addr} {E : XK} (q : E (.ref C) none H) : tRaise C E D σ H := q
theorem w_try {Wout : WX} {l : List Cls3} {tb : WX → TS} (q : tb (wAsMany K Wout D l) D σ H) : tTryAs K Wout l tb D σ H := q
theorem w_callS {sp : L2.Sp} {E : L2.St → XK} (q : t σ H fun vs H1 => sp vs H1 Q (E σ)) : tCallS sp E t σ H Q := q
theorem w_callE {a : Addr} {cls : Value} {d : Option Addr} {sp : L2.Sp} (q : t σ H fun vs H1 => ∀ oe, Zc cls d oe → (∃ fs, oe.data = .fields fs) → sp vs (upd H1 a (ExO a oe)) (fun v H2 => H2 = upd H1 a (ExO a oe) ∧ Q v H1) E0) : tCallE a cls d sp t σ H Q := q
theorem w_exmF {Wout : WX} {c cls : Value} {d : Option Addr} {i : Nat} {ts : Addr → Value → Option Addr → TS} {r : List Cls3} (h : PySem.W.exmOne K cls c = some false) (q : wAsMany K Wout D r cls d σ H) : wAsMany K Wout D ((c, i, ts) :: r) cls d σ H := ⟨false, h, fun z => absurd z Bool.false_ne_true, fun _ => q⟩
theorem w_exmT {Wout : WX} {c cls : Value} {d : Option Addr} {i : Nat} {ts : Addr → Value → Option Addr → TS} {r : List Cls3} (h : PySem.W.exmOne K cls c = some true) (q : ∀ a, H a = none → ts a cls d (D_as D i) (σ.set i (some (.ref a))) H) : wAsMany K Wout D ((c, i, ts) :: r) cls d σ H := ⟨true, h, fun _ => q, fun z => absurd z.symm Bool.false_ne_true⟩
theorem w_isX {a D : Addr} {oe : Obj} {C : Addr} {b : Bool} (ho : H a = some (ExO a oe)) (hz : Zc (.ref D) none oe) (hf : ∃ fs, oe.data = .fields fs) (x : ExcC K D) (h : PySem.W.kitOne K (.ref D) (.ref C) = some b) (q : Q (.bl b) H) : rIsX K [.ref a, .ref C] H Q := ⟨a, D, oe, .ref C, .ref C, b, rfl, ho, hz, hf, x, fun _ r => r, h, q⟩
theorem w_isXT {a D : Addr} {oe : Obj} {T : String} {b : Bool} (ho : H a = some (ExO a oe)) (hz : Zc (.ref D) none oe) (hf : ∃ fs, oe.data = .fields fs) (x : ExcC K D) (h : PySem.W.kitOne K (.ref D) (.type T) = some b) (q : Q (.bl b) H) : rIsX K [.ref a, .ty T] H Q := ⟨a, D, oe, .ty T, .type T, b, rfl, ho, hz, hf, x, fun _ r => r, h, q⟩
end
end Sp
/-! ## Texts of lines -/
namespace Sp
open PySem PySem.Spec PyProof.Rows L2
def rStrB : List V → Hp → VK → Prop := fun xs H Q => ∃ b, xs = [.bl b] ∧ Q (.str (if b then "True" else "False")) H
theorem call_str_bl {X : Cx} : CallR X (.type "str") rStrB := by
  intro pins s σ H xs us Q I r h
  obtain ⟨b, rfl, q⟩ := h
  cases r with
  | cons r1 rr =>
    cases rr
    cases r1
    exact PySem.P.str_of_bool ⟨.str _, H, I.tok _, ⟨_, rfl⟩, q⟩
theorem w_strB {b : Bool} {H : Hp} {Q : VK} (q : Q (.str (if b then "True" else "False")) H) : rStrB [.bl b] H Q := ⟨b, rfl, q⟩
/-- a text, n times -/
def rRepS : R2 := fun x y H Q => ∃ (l : List Nat) (n : Nat), x = .str (S l) ∧ y = .int (n : Int) ∧ l.length ≤ 40 ∧ n ≤ 1000 ∧ Q (.str (S (List.replicate n l).flatten)) H
theorem fold_app {α : Type} (l : Array α) : ∀ (n : Nat) (acc : Array α), (List.replicate n l).foldl (· ++ ·) acc = acc ++ (List.replicate n l.toList).flatten.toArray
  | 0, acc => by simp
  | n + 1, acc => by
    rw [List.replicate_succ, List.foldl_cons, fold_app l n, List.replicate_succ, List.flatten_cons]
    apply Array.ext'
    simp
theorem rep_len (l : List Nat) (n : Nat) : (List.replicate n l).flatten.length = n * l.length := by
  rw [List.length_flatten, List.map_replicate, List.sum_replicate_nat]
theorem op_repS {X : Cx} : OpR X (binaryOp .Mult) rRepS := by
  intro pins s σ H x y v u Q I rx ry h
  obtain ⟨l, n, rfl, rfl, hl, hn, q⟩ := h
  obtain ⟨t, rfl⟩ := rx
  obtain ⟨t', rfl⟩ := ry
  have len : (S l).length = l.length := S_len l
  have small : n * l.length ≤ 40000 := Nat.le_trans (Nat.mul_le_mul hn hl) (by decide)
  refine PySem.P.mul_str (by rw [decide_eq_false (by omega), decide_eq_false (by omega)] <;> rfl) (fun h1 _ => ?_) (fun h1 _ => ?_) ?_
  · rw [len]
    intro hc
    have h2 : (40 : Int) ≤ (2 ^ 63 - 1) / (n : Int) := (Int.le_ediv_iff_mul_le (by omega)).mpr (by omega)
    omega
  · rw [len, Int.toNat_natCast, Nat.mul_comm]
    have hs : 40000 ≤ sizeLine := by decide
    exact decide_eq_false (by omega)
  · have post : ∀ z : List Nat, z = (List.replicate n l).flatten → (S z).length ≤ sizeLine := fun z e => by
      rw [S_len, e, rep_len]
      exact Nat.le_trans small (by decide)
    split
    · rename_i h1
      have e0 : n = 0 := by omega
      subst e0
      exact ⟨by decide, .str _, H, I.tok _, ⟨_, rfl⟩, q⟩
    · split
      · rename_i h1 h2
        have e : (List.replicate n l).flatten = l := by
          rcases Bool.or_eq_true_iff.mp h2 with h3 | h3
          · have e1 : (n : Int) = 1 := eq_of_beq h3
            have e2 : n = 1 := by omega
            subst e2
            simp
          · have e1 : (S l).length = 0 := eq_of_beq h3
            rw [len] at e1
            have e2 : l = [] := List.length_eq_zero_iff.mp e1
            subst e2
            simp
        rw [e] at q
        exact ⟨.str _, H, I, ⟨_, rfl⟩, q⟩
      · have e : (⟨(List.replicate (n : Int).toNat (S l).cps).foldl (· ++ ·) #[]⟩ : Str) = S (List.replicate n l).flatten := by
          rw [Int.toNat_natCast, fold_app, Array.empty_append]
        rw [e]
        exact ⟨post _ rfl, .str _, H, I.tok _, ⟨_, rfl⟩, q⟩
theorem w_repS {l : List Nat} {n : Nat} {H : Hp} {Q : VK} (h1 : l.length ≤ 40) (h2 : n ≤ 1000) (q : Q (.str (S (List.replicate n l).flatten)) H) : rRepS (.str (S l)) (.int (n : Int)) H Q := ⟨l, n, rfl, rfl, h1, h2, q⟩
/-! ### find -/
theorem find_S {l : List Nat} {c : Nat} : (c ∉ l → Txt.find (S l) (S [c]) = -1) ∧ (c ∈ l → Txt.find (S l) (S [c]) = (l.idxOf c : Nat)) := by
  rcases PyProof.Rows.find_whole (S l) (S [c]) with ⟨e, hn⟩ | ⟨i, e, ha, hf⟩
  · refine ⟨fun _ => e, fun h => (hn (l.idxOf c) ⟨?_, sub_at.mpr (idx_of h)⟩).elim⟩
    rw [S_len, S_len]
    exact List.idxOf_lt_length_of_mem h
  · have hi : l[i]? = some c := sub_at.mp ha.2
    have hm := List.mem_of_getElem? hi
    refine ⟨fun h => (h hm).elim, fun _ => ?_⟩
    rw [e]
    congr 1
    rcases Nat.lt_trichotomy i (l.idxOf c) with h | h | h
    · have hlt : i < l.length := (List.getElem?_eq_some_iff.mp hi).1
      have q : (l[i] == c) = false := List.not_of_lt_findIdx (xs := l) (p := (· == c)) h
      rw [(List.getElem?_eq_some_iff.mp hi).2, beq_self_eq_true] at q
      cases q
    · exact h
    · exact (hf _ h ⟨by rw [S_len, S_len]; exact List.idxOf_lt_length_of_mem hm, sub_at.mpr (idx_of hm)⟩).elim
/-! ### figures -/
def figOk (f : List Nat) : Prop := 1 ≤ f.length ∧ f.length ≤ 4 ∧ (f.length > 1 → f[0]? ≠ some 48) ∧ ∀ c ∈ f, 48 ≤ c ∧ c ≤ 57
theorem num_S (n : Nat) : Str.ofString (toString ((n : Nat) : Int)) = S (TL.numL n) := SX.num_S n
theorem num_head : ∀ n : Nat, 1 ≤ n → (TL.numL n)[0]? ≠ some 48 := by
  intro n
  induction n using Nat.strongRecOn with
  | _ n ih =>
    intro h1
    by_cases h : n < 10
    · rw [TL.numL_lt h]
      intro e
      have e2 : 48 + n = 48 := Option.some.inj e
      omega
    · rw [TL.numL_step (by omega)]
      have hn : 0 < (TL.numL (n / 10)).length := List.length_pos_iff.mpr (TL.numL_ne _)
      rw [List.getElem?_append_left hn]
      exact ih (n / 10) (by omega) (by omega)
theorem num_fig {n : Nat} (h : n < 10000) : figOk (TL.numL n) := by
  refine ⟨List.length_pos_iff.mpr (TL.numL_ne n), TL.numL_len (by decide) h, fun h1 => num_head n ?_, TL.numL_digits n⟩
  rcases Nat.eq_zero_or_pos n with e | e
  · rw [e, TL.numL_lt (by decide)] at h1
    exact absurd h1 (by decide)
  · exact e
theorem num_plain {n c : Nat} (h : c ∈ TL.numL n) : 48 ≤ c ∧ c ≤ 57 := TL.numL_digits n c h
theorem fig_int {f : List Nat} (h : figOk f) : intText? (S f) = some ((NumText.digitsVal f : Nat) : Int) := by
  refine SX.int_S ?_ (List.length_pos_iff.mp h.1) (by have := h.2.1; omega)
  rw [List.all_eq_true]
  intro c hc
  obtain ⟨h1, h2⟩ := h.2.2.2 c hc
  rw [decide_eq_true h1, decide_eq_true h2]
  rfl
theorem num_val (n : Nat) : NumText.digitsVal (TL.numL n) = n := TL.numL_val n
/-! ### f-strings -/
def tJo (ts : List TE) : TE := fun σ H Q => tJs ts Str.empty σ H fun out H1 => Q (.str out) H1
theorem pe_joinedX {X : Cx} {v1 v2 : Expr} {rest : List Expr} {ts : List TE} {pos : Pos} (h : PJ X (v1 :: v2 :: rest) ts) : PE X (.JoinedStr (v1 :: v2 :: rest) pos) (tJo ts) := pe_joined h
section
variable {σ : L2.St} {H : Hp} {Q : VK}
theorem w_jo {ts : List TE} (q : tJs ts Str.empty σ H fun out H1 => Q (.str out) H1) : tJo ts σ H Q := q
theorem w_jcons {t : TE} {ts : List TE} {acc : Str} {R : Str → Hp → Prop} (q : t σ H fun x H1 => ∃ y : Str, x = .str y ∧ (acc ++ y).length ≤ sizeLine ∧ tJs ts (acc ++ y) σ H1 R) : tJs (t :: ts) acc σ H R := q
theorem w_jnil {acc : Str} {R : Str → Hp → Prop} (q : R acc H) : tJs [] acc σ H R := q
theorem w_jS {a b : List Nat} {R : Str → Prop} (h : a.length + b.length ≤ sizeLine) (q : R (S b)) : ∃ y : Str, V.str (S b) = .str y ∧ (S a ++ y).length ≤ sizeLine ∧ R y := ⟨S b, rfl, by rw [S_cat, S_len, List.length_append]; exact h, q⟩
theorem w_jT {a b : List Nat} {P : Prop} (h : a.length + b.length ≤ sizeLine) (q : P) : (S a ++ S b).length ≤ sizeLine ∧ P := ⟨by rw [S_cat, S_len, List.length_append]; exact h, q⟩
theorem w_fmt {te : TE} (q : te σ H fun x H1 => (∃ y : Str, x = .str y ∧ y.length ≤ sizeLine ∧ Q (.str y) H1) ∨ ∃ i : Int, x = .int i ∧ i.natAbs.log2 < 1920 ∧ Q (.str (toString i)) H1) : tFmt te σ H Q := q
theorem w_fmtI {P : Str → Prop} {n : Nat} {R : Int → Prop} (h : n < 2 ^ 64) (q : R (n : Int)) : (∃ y : Str, V.int (n : Int) = .str y ∧ y.length ≤ sizeLine ∧ P y) ∨ ∃ i : Int, V.int (n : Int) = .int i ∧ i.natAbs.log2 < 1920 ∧ R i := .inr ⟨_, rfl, by
  rw [Int.natAbs_natCast]
  rcases Nat.eq_zero_or_pos n with e | e
  · rw [e]; decide
  · exact Nat.lt_trans ((Nat.log2_lt (by omega)).mpr h) (by decide), q⟩
theorem w_fmtS {P : Str → Prop} {l : List Nat} {R : Int → Prop} (h : l.length ≤ sizeLine) (q : P (S l)) : (∃ y : Str, V.str (S l) = .str y ∧ y.length ≤ sizeLine ∧ P y) ∨ ∃ i : Int, V.str (S l) = .int i ∧ i.natAbs.log2 < 1920 ∧ R i := .inl ⟨_, rfl, by rw [S_len]; exact h, q⟩
theorem w_strN {n : Nat} {P : Int → Prop} (h : n < 2 ^ 64) (q : P (n : Int)) : ∃ i', [V.int (n : Int)] = [.int i'] ∧ i'.natAbs.log2 < 1920 ∧ P i' := ⟨_, rfl, by
  rw [Int.natAbs_natCast]
  rcases Nat.eq_zero_or_pos n with e | e
  · rw [e]; decide
  · exact Nat.lt_trans ((Nat.log2_lt (by omega)).mpr h) (by decide), q⟩
end
theorem str_e : Str.empty = S [] := rfl
theorem str_blank : Str.ofString " " = S [32] := by decide +kernel
/-! ### how a reading ends -/
theorem Kd.same {H H' : Hp} {x : V} (h : Kd H x) (s : Same H H') : Kd H' x := by
  cases x with
  | ref a =>
    rcases h with ⟨xs, e⟩ | ⟨xs, e⟩
    · exact .inl ⟨xs, s _ _ e⟩
    · exact .inr ⟨xs, s _ _ e⟩
  | _ => exact h
theorem wholeV_int {v : V} {lo hi : Int} (h : wholeV v lo hi = true) : ∃ i, v = .int i ∧ lo ≤ i ∧ i ≤ hi := by
  cases v with
  | int i =>
    have h' : (decide (lo ≤ i) && decide (i ≤ hi)) = true := h
    rw [Bool.and_eq_true, decide_eq_true_eq, decide_eq_true_eq] at h'
    exact ⟨i, rfl, h'⟩
  | _ => exact absurd h Bool.false_ne_true
inductive Out where
  | told (w : List Nat) | count | bit | loose | short | line
structure Errs where
  count : Addr
  bit : Addr
  loose : Addr
  short : Addr
  line : Addr
def bitsOk (l : Word) : Bool := l.all fun c => decide (c = 48 ∨ c = 49)
theorem bitsOk_iff {l : Word} : bitsOk l = true ↔ ∀ c ∈ l, c = 48 ∨ c = 49 := by
  unfold bitsOk
  rw [List.all_eq_true]
  exact ⟨fun h c hc => of_decide_eq_true (h c hc), fun h c hc => decide_eq_true (h c hc)⟩
def natOf (v : V) : Nat := match v with
  | .int i => i.toNat
  | _ => 0
def endO (R : UnpR) (m : Nat) : Out := if R.rest = [] then (if R.told.length < m then .short else .told R.told) else .loose
def unpO (g : List Nat) (z : Nat) (cap : Int) (bits : Word) (v : V) : Out :=
  if wholeV v 0 2000 = true then (if bitsOk bits = true then endO (unpS g z cap (natOf v + bits.length) (st0 g) (natOf v) [] bits) (natOf v) else .bit) else .count
def OutQ (e : Errs) (o : Out) (H : Hp) (Q : VK) (E : XK) : Prop := ∀ H', Same H H' → match o with
  | .told w => Q (.str (S w)) H'
  | .count => E (.ref e.count) none H'
  | .bit => E (.ref e.bit) none H'
  | .loose => E (.ref e.loose) none H'
  | .short => E (.ref e.short) none H'
  | .line => E (.ref e.line) none H'
theorem OutQ.same {e : Errs} {o : Out} {H H1 : Hp} {Q : VK} {E : XK} (h : OutQ e o H Q E) (s : Same H H1) : OutQ e o H1 Q E := fun H' s' => h H' (s.trans s')
section
variable {g : List Nat} {z : Nat} {cap : Int} {bits : Word}
theorem unpO_count {v : V} (h : wholeV v 0 2000 = false) : unpO g z cap bits v = .count := by
  unfold unpO
  rw [h, if_neg Bool.false_ne_true]
theorem whole_nat {m : Nat} (h : m ≤ 2000) : wholeV (.int (m : Int)) 0 2000 = true := by
  show (decide ((0 : Int) ≤ (m : Int)) && decide ((m : Int) ≤ 2000)) = true
  rw [decide_eq_true (by omega), decide_eq_true (by omega)]
  rfl
theorem unpO_bit {m : Nat} (h : m ≤ 2000) (hb : ¬ ∀ c ∈ bits, c = 48 ∨ c = 49) : unpO g z cap bits (.int (m : Int)) = .bit := by
  unfold unpO
  rw [if_pos (whole_nat h), if_neg fun q => hb (bitsOk_iff.mp q)]
theorem unpO_end {m : Nat} (h : m ≤ 2000) (hb : ∀ c ∈ bits, c = 48 ∨ c = 49) : unpO g z cap bits (.int (m : Int)) = endO (unpS g z cap (m + bits.length) (st0 g) m [] bits) m := by
  unfold unpO
  rw [if_pos (whole_nat h), if_pos (bitsOk_iff.mpr hb)]
  rfl
end
theorem str_figs : Str.ofString "0123456789" = S [48, 49, 50, 51, 52, 53, 54, 55, 56, 57] := by decide +kernel
theorem fig_mem {c : Nat} : c ∈ (S [48, 49, 50, 51, 52, 53, 54, 55, 56, 57]).cps.toList ↔ 48 ≤ c ∧ c ≤ 57 := by
  show c ∈ [48, 49, 50, 51, 52, 53, 54, 55, 56, 57] ↔ _
  simp only [List.mem_cons, List.not_mem_nil, or_false]
  omega
theorem w_sgnNot {P : Nat → Str → Prop} {c : Nat} {z : List Nat} (q : P c (S z)) : ∃ c' z', V.str (S [c]) = .str ⟨#[c']⟩ ∧ V.str (S z) = .str z' ∧ P c' z' := ⟨c, S z, rfl, rfl, q⟩
theorem w_intS {f : List Nat} {n : Int} {P : Int → Prop} (h : intText? (S f) = some n) (hl : f.length ≤ 640) (q : P n) : ∃ a n', [V.str (S f)] = [.str a] ∧ intText? a = some n' ∧ a.length ≤ 640 ∧ P n' := ⟨S f, n, rfl, h, by rw [S_len]; exact hl, q⟩
instance (f : List Nat) : Decidable (figOk f) := by unfold figOk; infer_instance
def readO (g : List Nat) (z : Nat) (cap : Int) (l : List Nat) : Out :=
  if 32 ∈ l then (if figOk (l.take (l.idxOf 32)) then unpO g z cap (l.drop (l.idxOf 32 + 1)) (.int ((NumText.digitsVal (l.take (l.idxOf 32)) : Nat) : Int)) else .line) else .line
/-! ### what lines and bits end in -/
section
variable {g : List Nat} {z : Nat} {cap : Int} {w : List Nat}
theorem idx_app {f r : List Nat} (h : 32 ∉ f) : (f ++ 32 :: r).idxOf 32 = f.length := by
  rw [List.idxOf_append, if_neg h, List.idxOf_cons_self, Nat.zero_add]
theorem readO_app {f r : List Nat} (h : 32 ∉ f) : readO g z cap (f ++ 32 :: r) = if figOk f then unpO g z cap r (.int ((NumText.digitsVal f : Nat) : Int)) else .line := by
  have e1 : (f ++ 32 :: r).take f.length = f := List.take_left
  have e2 : (f ++ 32 :: r).drop (f.length + 1) = r := by
    rw [show f ++ 32 :: r = (f ++ [32]) ++ r by rw [List.append_assoc]; rfl, show f.length + 1 = (f ++ [32]).length by rw [List.length_append]; rfl, List.drop_left]
  unfold readO
  rw [if_pos (List.mem_append_right _ List.mem_cons_self), idx_app h, e1, e2]
theorem num_no32 (n : Nat) : 32 ∉ TL.numL n := fun h => by
  have := num_plain h
  omega
theorem readO_num {m : Nat} {bits : Word} (h : m < 10000) : readO g z cap (TL.numL m ++ 32 :: bits) = unpO g z cap bits (.int (m : Int)) := by
  rw [readO_app (num_no32 m), if_pos (num_fig h), num_val]
theorem readO_bad {f r : List Nat} (h : 32 ∉ f) (nf : ¬ figOk f) : readO g z cap (f ++ 32 :: r) = .line := by rw [readO_app h, if_neg nf]
theorem readO_none {l : List Nat} (h : 32 ∉ l) : readO g z cap l = .line := by unfold readO; rw [if_neg h]
theorem unpO_many {m : Nat} {bits : Word} (h : 2000 < m) : unpO g z cap bits (.int (m : Int)) = .count := unpO_count (by
  show (decide ((0 : Int) ≤ (m : Int)) && decide ((m : Int) ≤ 2000)) = false
  rw [decide_eq_false (show ¬ (m : Int) ≤ 2000 by omega), Bool.and_false])
theorem unpO_pack (b : BookOk g z cap) (h : ∀ c ∈ w, c ∈ g) {k : Nat} {ex : Word} (hx : ∀ c ∈ ex, c = 48 ∨ c = 49) (hk : w.length + k ≤ 2000) :
    unpO g z cap (packS g z cap (st0 g) w ++ ex) (.int ((w.length + k : Nat) : Int)) = endO ⟨w ++ (unpS g z cap (k + ex.length) (runS g z cap (st0 g) w) k [] ex).told, (unpS g z cap (k + ex.length) (runS g z cap (st0 g) w) k [] ex).st, (unpS g z cap (k + ex.length) (runS g z cap (st0 g) w) k [] ex).word, (unpS g z cap (k + ex.length) (runS g z cap (st0 g) w) k [] ex).rest⟩ (w.length + k) := by
  rw [unpO_end hk fun c hc => (List.mem_append.mp hc).elim ((packS_bits (st := st0 g) b (ones_ok b) h).1 c) (hx c)]
  rw [List.length_append, show w.length + k + ((packS g z cap (st0 g) w).length + ex.length) = k + ex.length + w.length + (packS g z cap (st0 g) w).length by omega, unp_pack b w (st0 g) (k + ex.length) k ex (ones_ok b) h]
theorem unpO_told (b : BookOk g z cap) (h : ∀ c ∈ w, c ∈ g) (lw : w.length ≤ 2000) : unpO g z cap (packS g z cap (st0 g) w) (.int ((w.length : Nat) : Int)) = .told w := by
  have e := unpO_pack (k := 0) (ex := []) b h (fun c hc => (List.not_mem_nil hc).elim) (by omega)
  rw [List.append_nil, Nat.add_zero, unp_zero] at e
  rw [e]
  unfold endO
  rw [if_pos rfl, List.append_nil, if_neg (Nat.lt_irrefl _)]
theorem unpO_short (b : BookOk g z cap) (h : ∀ c ∈ w, c ∈ g) (h2 : 2 ≤ g.length) {m : Nat} (lt : w.length < m) (lm : m ≤ 2000) : unpO g z cap (packS g z cap (st0 g) w) (.int (m : Int)) = .short := by
  obtain ⟨k, rfl⟩ : ∃ k, m = w.length + k := ⟨m - w.length, by omega⟩
  have e := unpO_pack (k := k) (ex := []) b h (fun c hc => (List.not_mem_nil hc).elim) lm
  rw [List.append_nil, unp_stop (codes_none (runS_ok (st := st0 g) b (ones_ok b)) h2)] at e
  rw [e]
  unfold endO
  rw [if_pos rfl, List.append_nil, if_pos lt]
theorem unpO_loose (b : BookOk g z cap) (h : ∀ c ∈ w, c ∈ g) {ex : Word} (hx : ∀ c ∈ ex, c = 48 ∨ c = 49) (hn : ex ≠ []) (lw : w.length ≤ 2000) : unpO g z cap (packS g z cap (st0 g) w ++ ex) (.int ((w.length : Nat) : Int)) = .loose := by
  have e := unpO_pack (k := 0) (ex := ex) b h hx (by omega)
  rw [Nat.add_zero, unp_zero] at e
  rw [e]
  unfold endO
  rw [if_neg hn]
end
end Sp
/-! ## Lambdas, with a default or without one, held and handed on -/
namespace Sp
open PySem PySem.Spec PyProof.Rows L2
abbrev lamQ (X : Cx) : Str := X.env.qual ++ "<lambda>"
abbrev lamObj (X : Cx) (params : Arguments) (body : Expr) (scope : Scope) (dV doc pm : Value) (c' : Addr) (ctv : Value) : Obj :=
  PySem.W.kdv_obj "<lambda>" (lamQ X) params (.expr body) scope (cloFrom X.env.cells scope.names []) dV doc pm c' ctv
section
variable {X : Cx} {pins : List (Addr × Obj)} {σ : L2.St} {H : Hp} {s : Shared}
/-- a made function whose default values are known -/
theorem lam_tail {T : List (Addr × Str)} {c P : Addr} {params : Arguments} {body : Expr} {scope : Scope} {pos : Pos} {dV : Value} {E : Value → Shared → Prop} {Q : Value → Shared → Prop} (I : Inv X pins σ H s) (TB : LamX.TabB X.base X.mg c P) (hcode : X.env.code = .ref c)
    (hm : (P, lamQ X) ∈ T) (hu : ∀ p ∈ T, p.1 = P → p.2 = lamQ X) (hT : LamX.Tabs T H) (hfree : ∀ y ∈ scope.names, y.2 = .free → ∃ c, X.env.cells.lookup y.1 = some c)
    (k : ∀ (f c' : Addr) (doc pm ctv : Value) (H1 : Hp) (s' : Shared), Inv X pins σ H1 s' → LamX.ExtN H H1 → LamX.Tabs T H1 → s'.heap.get? f = some (lamObj X params body scope dV doc pm c' ctv) → H1 f = none → s.heap.objs.size ≤ f → H1 c' = some (LamX.CodeO c' (lamQ X)) → Q (.ref f) s') :
    wpAny (model X.prog X.w) X.A (makeTail "<lambda>" (lamQ X) params (.expr body) scope X.env dV .none none pos pos.line) Q E s := by
  obtain ⟨ps, hP, tri, named⟩ := hT _ hm
  have atP : s.heap.get? P = some { cls := .none, data := .fields ps } := I.hok P _ hP
  have bP : s.heap.BuiltinsAt X.mg P := TB.bm.keeps I.bk
  have gG := I.mod.glob.keeps I.bk
  have cH := TB.code.keeps I.bk
  cases among : codeAmong pos ps.toList with
  | some cv =>
    obtain ⟨c', rfl, hco⟩ := named pos cv among
    refine PySem.W.kdv_makeTailHit (closure_ok hfree) I.ok.glob gG hcode cH atP tri among bP fun ctv doc h' tk hx hsz => ?_
    exact k h'.objs.size c' doc _ ctv H { s with heap := h'.push (lamObj X params body scope dV doc ((X.mg "__name__").getD .none) c' ctv), toks := tk } (I.kept fun b o e => Heap.get?_push_of_some _ (hx b o e)) (LamX.ExtN.refl H) hT (Heap.get?_push_size _ rfl) (I.hok.fresh hsz) hsz hco
  | none =>
    refine PySem.W.kdv_makeTail (closure_ok hfree) I.ok.glob gG hcode cH atP tri among TB.gP bP fun c' ctv doc h' tk hx hge hlt hrec htb => ?_
    obtain ⟨c2, oc, vs, t, ec, hoc, hd, hv⟩ := hrec
    cases ec
    have size : s.heap.objs.size ≤ h'.objs.size := Nat.le_of_lt (Nat.lt_of_le_of_lt hge hlt)
    have freeC : H c' = none := I.hok.fresh hge
    have nPc : P ≠ c' := ne_of_none hP freeC
    have J := LamX.inv_table (t' := tk) (more := #[rawInt pos.line, rawInt pos.col, .ref c']) (h' := h'.push (lamObj X params body scope dV doc ((X.mg "__name__").getD .none) c' ctv)) I hP (fun b o hb e => Heap.get?_push_of_some _ (hx b o hb e)) (Heap.get?_push_of_some _ htb) hge ⟨oc, vs, t, Heap.get?_push_of_some _ hoc, hd, hv⟩
    have ext : LamX.ExtN H (upd (upd H P (.tbl (ps ++ #[rawInt pos.line, rawInt pos.col, .ref c']))) c' (LamX.CodeO c' (lamQ X))) := fun b o e n => by
      rw [upd_ne (ne_of_none e freeC), upd_ne (fun z => n ps (Option.some.inj (e.symm.trans (by rw [z]; exact hP))))]
      exact e
    have more : (ps ++ #[rawInt pos.line, rawInt pos.col, .ref c']).toList = ps.toList ++ [rawInt pos.line, rawInt pos.col, .ref c'] := by simp
    refine k h'.objs.size c' doc _ ctv _ _ J ext (fun p hp => ?_) (Heap.get?_push_size _ rfl) ?_ size upd_same
    · by_cases hb : p.1 = P
      · rw [hu p hp hb, hb]
        refine ⟨_, by rw [upd_ne nPc, upd_same], by rw [more]; exact PySem.TriplesOk_snoc _ _ _ _ tri, fun p' cv q => ?_⟩
        rw [more] at q
        rcases LamX.among_app _ tri q with z | z
        · obtain ⟨c0, y1, y2⟩ := named p' cv z
          exact ⟨c0, y1, ext _ _ y2 LamX.codeO_ne⟩
        · exact ⟨c', z, upd_same⟩
      · obtain ⟨ps', y1, y2, y3⟩ := hT p hp
        refine ⟨ps', by rw [upd_ne (ne_of_none y1 freeC), upd_ne hb]; exact y1, y2, fun p' cv q => ?_⟩
        obtain ⟨c0, z1, z2⟩ := y3 p' cv q
        exact ⟨c0, z1, ext _ _ z2 LamX.codeO_ne⟩
    · rw [upd_ne (Nat.ne_of_gt hlt), upd_ne (Nat.ne_of_gt (Nat.lt_of_lt_of_le (Heap.lt_size atP) size))]
      exact I.hok.fresh size
/-- a thing that stands in the heap is known from now on -/
theorem inv_track {f : Addr} {o : Obj} {s0 : Shared} {H0 : Hp} (I0 : Inv X pins σ H0 s0) (big : s0.heap.objs.size ≤ f) (I : Inv X pins σ H s) (hf : s.heap.get? f = some o) (hn : H f = none) : Inv X pins σ (upd H f (ExO f o)) s := by
  have lt0 : ∀ {b : Addr} {u : Obj}, s0.heap.get? b = some u → b ≠ f := fun e z => by
    rw [z] at e
    exact absurd (Nat.lt_of_lt_of_le (Heap.lt_size e) big) (Nat.lt_irrefl _)
  have nb : ∀ {b : Addr} {u : Obj}, X.s_0.heap.get? b = some u → b ≠ f := fun e z => by
    rw [z] at e
    exact absurd (Nat.lt_of_lt_of_le (Heap.lt_size e) (Nat.le_trans I0.sz big)) (Nat.lt_irrefl _)
  have nL : X.env.locals ≠ f := fun z => by
    have h := I0.lt
    rw [z] at h
    exact absurd (Nat.lt_of_lt_of_le h big) (Nat.lt_irrefl _)
  have nC : ∀ x c, X.env.cells.lookup x = some c → c ≠ f := fun x c e => by
    obtain ⟨v, u, hu, _⟩ := I0.cell x c e
    exact lt0 hu
  refine ⟨I.ok, I.os, I.bare, ⟨I.base.keep, I.base.slot, fun b u e n hx => by rw [upd_ne (nb e)]; exact I.base.free b u e n hx, I.base.there, fun b xs e => ?_, fun b u xs e => ?_, fun b ps e => ?_⟩, I.loc, I.cell, by rw [upd_ne nL]; exact I.free, fun x c e => by rw [upd_ne (nC x c e)]; exact I.freeC x c e, fun p hp => ?_, fun b u e => ?_, I.len⟩
  · have q := I.base.tups b xs e
    rw [upd_ne (ne_of_none q hn)]
    exact q
  · have q := I.base.frzs b u xs e
    rw [upd_ne (ne_of_none q hn)]
    exact q
  · obtain ⟨m, q⟩ := I.base.tbls b ps e
    exact ⟨m, by rw [upd_ne (ne_of_none q hn)]; exact q⟩
  · obtain ⟨y1, y2, y3⟩ := I.pin p hp
    exact ⟨y1, by rw [upd_ne (lt0 (I0.pin p hp).1)]; exact y2, y3⟩
  · by_cases hb : b = f
    · subst hb
      rw [upd_same] at e
      cases e
      exact ⟨hf, ⟨o, hf⟩, fun h1 h2 e1 k => k _ e1⟩
    · rw [upd_ne hb] at e
      exact (I.hok b u e).stay (fun _ _ _ q => q) (fun d q => by rw [upd_ne (ne_of_none q hn)]; exact q) fun d xs q => by rw [upd_ne (ne_of_none q hn)]; exact q
end
/-- the lambda's names: captured ones, globals, at most one parameter x -/
structure LamN (X : Cx) (scope : Scope) (x : Option Str) : Prop where
  kind : scope.kind = .function
  co : scope.isCoroutine = false
  gen : scope.isGenerator = false
  own : ∀ y ∈ scope.names, y.2 ≠ .cell ∧ (y.2 = .local → x = some y.1)
  free : ∀ y ∈ scope.names, y.2 = .free → X.env.scope.names.lookup y.1 = some .cell ∨ X.env.scope.names.lookup y.1 = some .free
  par : ∀ n, x = some n → n ∉ X.N ∧ scope.names.lookup n = some .local
def lamNB (N : List Str) (sc scope : Scope) (x : Option Str) : Bool :=
  decide (scope.kind = .function) && !scope.isCoroutine && !scope.isGenerator && scope.names.all (fun y => !decide (y.2 = .cell) && (!decide (y.2 = .local) || decide (x = some y.1)) && (!decide (y.2 = .free) || decide (sc.names.lookup y.1 = some .cell) || decide (sc.names.lookup y.1 = some .free))) &&
    (match x with | none => true | some n => !decide (n ∈ N) && decide (scope.names.lookup n = some .local))
theorem lamN_by {X : Cx} {scope : Scope} {x : Option Str} (h : lamNB X.N X.env.scope scope x = true) : LamN X scope x := by
  unfold lamNB at h
  simp only [Bool.and_eq_true, Bool.or_eq_true, Bool.not_eq_true', decide_eq_true_eq, decide_eq_false_iff_not, List.all_eq_true] at h
  obtain ⟨⟨⟨⟨h1, h2⟩, h3⟩, h4⟩, h5⟩ := h
  refine ⟨h1, h2, h3, fun y hy => ⟨(h4 y hy).1.1, fun e => (h4 y hy).1.2.elim (fun z => absurd e z) id⟩, fun y hy e => ?_, fun n e => ?_⟩
  · rcases (h4 y hy).2 with (z | z) | z
    · exact absurd e z
    · exact .inl z
    · exact .inr z
  · subst e
    simp only [Bool.and_eq_true, Bool.not_eq_true', decide_eq_true_eq, decide_eq_false_iff_not] at h5
    exact h5
theorem LamN.has {X : Cx} {scope : Scope} {x : Option Str} (L : LamN X scope x) (ok : X.Ok) : ∀ y ∈ scope.names, y.2 = .free → ∃ c, X.env.cells.lookup y.1 = some c := fun y hy e => by
  rcases L.free y hy e with k | k
  · exact ok.has _ (.inl k)
  · exact ok.has _ (.inr k)
abbrev lamE (X : Cx) (scope : Scope) (L f c' : Addr) : Env := LamX.lamEnv X scope L f c'
section
variable {X : Cx} {pins : List (Addr × Obj)} {σ : L2.St} {H HZ : Hp} {s s1 : Shared}
/-- the lambda's body is entered -/
theorem lam_enter {A : Around} {outer : List Env} {E : XK} {scope : Scope} {x : Option Str} {binds : List (Str × Value)} {f c' : Addr} {h₁ : Heap} {tk : Nat} (I : Inv X pins σ H s) (L : LamN X scope x) (e0 : Env0 X.prog X.w X.K X.mg X.base A outer s1 HZ) (hd : A.handled = none)
    (un : Un (frs X.stack) [] H HZ s.heap s1.heap) (hns : h₁.Ns s1.heap.objs.size fun y => binds.reverse.lookup y) (kp : ∀ b o, s1.heap.get? b = some o → h₁.get? b = some o) :
    Inv (LamX.lamCx X A outer s1 HZ E scope f c') [] σ HZ { s1 with heap := h₁, toks := tk } := by
  have hfree := L.has I.ok
  have back : ∀ {y c}, (cloFrom X.env.cells scope.names []).lookup y = some c → X.env.cells.lookup y = some c := fun {y c} e => by
    rcases cloFrom_mem (PySem.mem_of_lookup e) with hm | ⟨h1, h2⟩
    · cases hm
    · obtain ⟨c1, hc⟩ := hfree _ h1 rfl
      have hc : X.env.cells.lookup y = some c1 := hc
      have e2 : c = c1 := by
        rw [h2, hc] <;> rfl
      subst e2
      exact hc
  have there : ∀ {y}, scope.names.lookup y = some .free → ∃ c, (cloFrom X.env.cells scope.names []).lookup y = some c := fun {y} hl => mem_lookup (cloFrom_has (cells := X.env.cells) (acc := []) (show (y, NameKind.free) ∈ scope.names from PySem.mem_of_lookup hl))
  have cells : ∀ {c : Addr} {v : Option Value}, H c = none → s.heap.IsCell c v → h₁.IsCell c v := fun {c v} n ⟨o, ho, hc⟩ => by
    obtain ⟨sl, q⟩ := un.any ho n (by simp)
    exact ⟨_, kp _ _ q, hc⟩
  have noEx : ∀ b : Addr, b ∉ (LamX.lamCx X A outer s1 HZ E scope f c').ex := fun b z => absurd (show b ∈ ([] : List Addr) from z) (by simp)
  refine ⟨⟨e0.mod, L.kind, rfl, rfl, Nat.le_refl _, fun y z c e1 e2 => I.ok.inj y z c (back e1) (back e2), fun y hy => ?_, fun y c z _ => absurd (show false = true from z) Bool.false_ne_true, fun _ => hd, Around.frames_deeper e0.frames, .inr ⟨rfl, rfl⟩, fun b z => absurd z (noEx b), e0.bs, e0.bsz, fun b _ _ => noEx b,
      fun b z => absurd z (noEx b), e0.funs, e0.frf⟩, rfl, e0.bare, Un.kept kp, ⟨_, hns, fun i y v e1 e2 e3 => ?_⟩, fun y c e => ?_, e0.hok.fresh (Nat.le_refl _), fun y c e => ?_, fun q hq => absurd (show q ∈ ([] : List (Addr × Obj)) ++ [] from hq) (by simp), e0.hok.kept kp, I.len⟩
  · rcases (show scope.names.lookup y = some .cell ∨ scope.names.lookup y = some .free from hy) with q | q
    · exact absurd rfl (L.own _ (PySem.mem_of_lookup q)).1
    · exact there q
  · rcases (show Vis scope y from e3) with q | q | q
    · have ex := (L.own _ (PySem.mem_of_lookup q)).2 rfl
      exact absurd (List.mem_of_getElem? (show X.N[i]? = some y from e1)) (L.par y ex).1
    · exact absurd rfl (L.own _ (PySem.mem_of_lookup q)).1
    · obtain ⟨m, hn, hl⟩ := I.loc
      have vis : Vis X.env.scope y := (L.free _ (PySem.mem_of_lookup q) rfl).elim (fun k => .inr (.inl k)) (fun k => .inr (.inr k))
      obtain ⟨w', r, z⟩ := hl i y v e1 e2 vis
      obtain ⟨c2, h2⟩ := there q
      refine ⟨w', r, .inr ⟨.inr q, c2, h2, ?_⟩⟩
      rcases z with ⟨k', _⟩ | ⟨_, c3, e', z⟩
      · have k' : X.env.scope.names.lookup y = some .local := k'
        rcases L.free _ (PySem.mem_of_lookup q) rfl with k2 | k2 <;> rw [show X.env.scope.names.lookup y = _ from k2] at k' <;> cases k'
      · rw [back h2] at e'
        cases e'
        exact cells (I.freeC y _ (back h2)) z
  · obtain ⟨w', z⟩ := I.cell y c (back e)
    exact ⟨w', cells (I.freeC y c (back e)) z⟩
  · obtain ⟨v, o, ho, _⟩ := I.cell y c (back e)
    exact un.free c o ho (I.freeC y c (back e)) (by simp)
end
/-- a lambda whose body reads tb; x: its parameter that has a default -/
structure LamR (X : Cx) (k : Nat) (params : Arguments) (body : Expr) (scope : Scope) (x : Option Str) (tb : XK → TE) : Prop where
  n : LamN X scope x
  b0 : x = none → ∀ (doc pm cv ctv : Value), bindArgs (PySem.W.kdv_fn "<lambda>" (lamQ X) params (.expr body) scope (cloFrom X.env.cells scope.names []) .none doc pm cv ctv) ⟨[], []⟩ = pure []
  b1 : ∀ n, x = some n → ∀ (dV doc pm cv ctv : Value), ∃ kk : Option (Array Value) → Sem (List (Str × Value)), bindArgs (PySem.W.kdv_fn "<lambda>" (lamQ X) params (.expr body) scope (cloFrom X.env.cells scope.names []) dV doc pm cv ctv) ⟨[], []⟩ = seqItems? dV >>= kk ∧ ∀ v, kk (some #[v]) = pure [(n, v)]
  run : ∀ (A : Around) (outer : List Env) (s : Shared) (H : Hp) (E : XK) (f c' : Addr), Room k (A.deeper (lamE X scope s.heap.objs.size f c')) → PE (LamX.lamCx X A outer s H E scope f c') body (tb E)
/-- what stands behind x's default -/
def DefV (H : Hp) (x : Option Str) (dV : Value) : Prop := (x = none ∧ dV = .none) ∨ ∃ n t v, x = some n ∧ dV = .ref t ∧ H t = some (ExO t (PySem.W.kdv_tup [v]))
/-- at f stands a lambda whose body reads tb -/
def LamV (X : Cx) (k : Nat) (tb : XK → TE) (H : Hp) (f : Addr) : Prop :=
  ∃ (params : Arguments) (body : Expr) (scope : Scope) (x : Option Str) (dV doc pm ctv : Value) (c' : Addr), LamR X k params body scope x tb ∧ H f = some (ExO f (lamObj X params body scope dV doc pm c' ctv)) ∧ H c' = some (LamX.CodeO c' (lamQ X)) ∧ DefV H x dV
theorem exO_ne {a : Addr} {o : Obj} (ps : Array Value) : ExO a o ≠ .tbl ps := fun z => by
  unfold ExO at z
  cases z
theorem LamV.ext {X : Cx} {k : Nat} {tb : XK → TE} {H H' : Hp} {f : Addr} (h : LamV X k tb H f) (e : LamX.ExtN H H') : LamV X k tb H' f := by
  obtain ⟨params, body, scope, x, dV, doc, pm, ctv, c', r, h1, h2, h3⟩ := h
  refine ⟨params, body, scope, x, dV, doc, pm, ctv, c', r, e _ _ h1 exO_ne, e _ _ h2 LamX.codeO_ne, ?_⟩
  rcases h3 with h3 | ⟨n, t, v, e1, e2, e3⟩
  · exact .inl h3
  · exact .inr ⟨n, t, v, e1, e2, e _ _ e3 exO_ne⟩
theorem LamV.same {X : Cx} {k : Nat} {tb : XK → TE} {H H' : Hp} {f : Addr} (h : LamV X k tb H f) (e : Same H H') : LamV X k tb H' f := h.ext (LamX.ExtN.of e)
def tLamV (X : Cx) (k : Nat) (T : List (Addr × Str)) (tb : XK → TE) : TE := fun σ H Q => LamX.Tabs T H ∧ ∀ f H1, LamX.ExtN H H1 → LamX.Tabs T H1 → LamV X k tb H1 f → Q (.ref f) H1
section
variable {X : Cx} {k : Nat} {T : List (Addr × Str)} {c P : Addr} {params : Arguments} {body : Expr} {scope : Scope} {tb : XK → TE} {pos : Pos}
theorem tabs_track {H : Hp} {f : Addr} {o : Obj} (hT : LamX.Tabs T H) (hn : H f = none) : LamX.Tabs T (upd H f (ExO f o)) := hT.ext fun b u e => by rw [upd_ne (ne_of_none e hn)]; exact e
theorem ext_track {H H1 : Hp} {f : Addr} {o : Obj} (e : LamX.ExtN H H1) (hn : H1 f = none) : LamX.ExtN H (upd H1 f (ExO f o)) := fun b u z n => by
  have q := e b u z n
  rw [upd_ne (ne_of_none q hn)]
  exact q
theorem pe_lam0 (TB : LamX.TabB X.base X.mg c P) (hcode : X.env.code = .ref c) (hm : (P, lamQ X) ∈ T) (hu : ∀ p ∈ T, p.1 = P → p.2 = lamQ X) (r : LamR X k params body scope none tb) (hdef : defaultsOf params X.env = ([], []) := by rfl) :
    PE X (.Lambda params body scope pos) (tLamV X k T tb) := by
  refine ⟨fun pins s σ H Q I h => ?_⟩
  obtain ⟨hT, h⟩ := h
  refine PySem.W.kla_eval hdef ?_
  rw [makeFunction_eq]
  simp only [List.zip_nil_right, List.filterMap_nil, List.isEmpty_nil, if_true, pure_bind]
  refine lam_tail I TB hcode hm hu hT (r.n.has I.ok) fun f c' doc pm ctv H1 s' I1 e1 T1 hf hn big hc => ?_
  have nc : c' ≠ f := ne_of_none hc hn
  exact ⟨.ref f, _, inv_track I big I1 hf hn, rfl, h f _ (ext_track e1 hn) (tabs_track T1 hn) ⟨params, body, scope, none, .none, doc, pm, ctv, c', r, upd_same, by rw [upd_ne nc]; exact hc, .inl ⟨rfl, rfl⟩⟩⟩
theorem pe_lam1 {n : Str} {i : Int} {j : Nat} {p : Pos} (TB : LamX.TabB X.base X.mg c P) (hcode : X.env.code = .ref c) (hm : (P, lamQ X) ∈ T) (hu : ∀ p ∈ T, p.1 = P → p.2 = lamQ X) (r : LamR X k params body scope (some n) tb) (hd : params.defaults = [.Constant (.int i) j p] := by rfl) (hk : params.kw_defaults = [] := by rfl) :
    PE X (.Lambda params body scope pos) (tLamV X k T tb) := by
  refine ⟨fun pins s σ H Q I h => ?_⟩
  obtain ⟨hT, h⟩ := h
  refine PySem.W.kdv_lam (by rw [hd]; rfl) hk ?_
  rw [hd]
  have hv : wpAny (model X.prog X.w) X.A (eval (.Constant (.int i) j p) X.env) (EP X pins σ (fun v H1 => v = .int i ∧ H1 = H)) X.xe s := pe_int.run pins s σ H _ I ⟨rfl, rfl⟩
  refine PySem.W.kdv_all1 (thn hv fun u s1 hh => PySem.W.kdv_all0 ?_)
  obtain ⟨v, H1, I1, ru, ev, eH⟩ := hh
  subst ev
  rw [eH] at I1
  rw [makeFunction_eq]
  simp only [List.zip_nil_right, List.filterMap_nil, List.isEmpty_nil, List.isEmpty_cons, Bool.false_eq_true, if_false, if_true, pure_bind]
  refine wpAny_bind (wpAny_newTextTuple ?_)
  have n1 : H s1.heap.objs.size = none := I1.hok.fresh (Nat.le_refl _)
  have I2 : Inv X pins σ H { s1 with heap := s1.heap.push (PySem.W.kdv_tup [u]) } := I1.kept (t' := s1.toks) fun b o e => Heap.get?_push_of_some _ e
  have I3 := inv_track I1 (Nat.le_refl _) I2 (Heap.get?_push_size _ rfl) n1
  refine lam_tail I3 TB hcode hm hu (tabs_track hT n1) (r.n.has I.ok) fun f c' doc pm ctv H2 s' I4 e1 T1 hf hn big hc => ?_
  have nc : c' ≠ f := ne_of_none hc hn
  have at2 : H2 s1.heap.objs.size = some (ExO s1.heap.objs.size (PySem.W.kdv_tup [u])) := e1 _ _ upd_same exO_ne
  refine ⟨.ref f, _, inv_track I3 big I4 hf hn, rfl, h f _ (ext_track ((ext_track (LamX.ExtN.refl H) n1).trans e1) hn) (tabs_track T1 hn) ⟨params, body, scope, some n, .ref s1.heap.objs.size, doc, pm, ctv, c', r, upd_same, by rw [upd_ne nc]; exact hc, .inr ⟨n, _, u, rfl, rfl, ?_⟩⟩⟩
  rw [upd_ne (ne_of_none at2 hn)]
  exact at2
end
/-! ### the def that calls what it is handed -/
def tAct (f : Addr) (P0 : Hp → Prop) (tl : XK → Hp → VK → Prop) (W : WX) : TE := fun σZ HZ Q => ∃ E : XK, (∀ cls d H', E cls d H' → W cls d σZ H') ∧ σZ[0]? = some (some (.ref f)) ∧ P0 HZ ∧ tl E HZ Q
/-- TT: what the def makes of the reading of the lambda that it is handed and calls -/
def Gives (X : Cx) (k : Nat) (Ng : List Str) (x : Str) (sg : Scope) (g : Addr) (cdg : Value) (bg : List Stmt) (a : Str) (TT : (XK → Hp → VK → Prop) → Hp → VK → Prop) : Prop :=
  ∀ (f : Addr) (s : Shared) (H : Hp) (Q : VK) (P0 : Hp → Prop) (tl : XK → Hp → VK → Prop), Room k (X.A.deeper (envOfC x sg s.heap.objs.size g cdg)) →
    (∀ (W : WX) (pn : List (Addr × Obj)) (xe : Value → Shared → Prop) (p1 p2 : Pos), Takes ((cxOf CX0 X.prog X.w X.K X.mg X.base Ng x sg g cdg X.A X.stack s H E0).tr pn xe) W →
      PE ((cxOf CX0 X.prog X.w X.K X.mg X.base Ng x sg g cdg X.A X.stack s H E0).tr pn xe) (.Call (.Name a p1) [] [] p2) (tAct f P0 tl W)) →
    P0 H → TT tl H Q →
    ∃ t, PSs (cxOf CX0 X.prog X.w X.K X.mg X.base Ng x sg g cdg X.A X.stack s H E0).nox bg t ∧ t { nx := fun _ H' => Q .non H', rt := Q } (L2.start Ng [.ref f]) H
section
variable {X : Cx} {pins : List (Addr × Obj)} {σ : L2.St} {H : Hp} {s : Shared}
/-- the lambda is called -/
theorem pe_actV {Ng : List Str} {qg : Str} {sg : Scope} {g f : Addr} {cdg : Value} {k : Nat} {a : Str} {pn : List (Addr × Obj)} {xe : Value → Shared → Prop} {W : WX} {tb : XK → TE} {p1 p2 : Pos} (I : Inv X pins σ H s)
    (tk : Takes ((cxOf CX0 X.prog X.w X.K X.mg X.base Ng qg sg g cdg X.A X.stack s H E0).tr pn xe) W) (hr : Room (k + 1) (X.A.deeper (envOfC qg sg s.heap.objs.size g cdg)))
    (hN : Ng[0]? = some a) (hv : Vis sg a) (hd : (a == ("__debug__" : Str)) = false) (hcd : (a == ("__classdict__" : Str)) = false) :
    PE ((cxOf CX0 X.prog X.w X.K X.mg X.base Ng qg sg g cdg X.A X.stack s H E0).tr pn xe) (.Call (.Name a p1) [] [] p2) (tAct f (fun HZ => LamV X k tb HZ f) (fun E HZ Q => tb E σ HZ Q) W) := by
  refine ⟨fun pinsZ sZ σZ HZ Q IZ h => ?_⟩
  obtain ⟨E, hE, hs, hl, ht⟩ := h
  obtain ⟨params, body, scope, x, dV, doc, pm, ctv, c', r, h1, h2, h3⟩ := id hl
  refine wpAny_Call_Name_kw (thn ((pe_var (pos := p1) (i := 0) hN hv hd hcd).run pinsZ sZ σZ HZ (fun v H1 => v = .ref f ∧ H1 = HZ) IZ ⟨.ref f, hs, rfl, rfl⟩) fun u s1 hh => ?_)
  obtain ⟨v, H1, I1, r1, ev, eH⟩ := hh
  subst ev
  rw [eH] at I1
  obtain rfl : u = Value.ref f := r1
  obtain ⟨of1, _, _⟩ := I1.hok f _ h1
  obtain ⟨⟨oc, vs, t, hoc, hdc, hvc⟩, _, _⟩ := I1.hok c' _ h2
  refine PySem.W.callWith_F0 ⟨_, _, _, _, of1⟩ ?_
  have un : Un (frs X.stack) [] H HZ s.heap s1.heap := I1.base
  have bound : ∃ binds : List (Str × Value), BindsTo s1 (PySem.W.kdv_fn "<lambda>" (lamQ X) params (.expr body) scope (cloFrom X.env.cells scope.names []) dV doc pm (.ref c') ctv) ⟨[], []⟩ binds ∧ ∀ y ∈ binds, scope.names.lookup y.1 = some .local := by
    rcases h3 with ⟨rfl, rfl⟩ | ⟨n, t0, v0, rfl, rfl, e3⟩
    · exact ⟨[], .of_eq (r.b0 rfl doc pm (.ref c') ctv), fun y hy => absurd hy List.not_mem_nil⟩
    · obtain ⟨ot, _, _⟩ := I1.hok t0 _ e3
      obtain ⟨kk, b1, b2⟩ := r.b1 n rfl (.ref t0) doc pm (.ref c') ctv
      refine ⟨[(n, v0)], BindsTo.of_defaults (fd := PySem.W.kdv_fn "<lambda>" (lamQ X) params (.expr body) scope (cloFrom X.env.cells scope.names []) (.ref t0) doc pm (.ref c') ctv) rfl ot rfl b1 (b2 v0), fun y hy => ?_⟩
      rw [List.mem_singleton.mp hy]
      exact (r.n.par n rfl).2
  obtain ⟨binds, hb, hloc⟩ := bound
  have rc : codeAny (model X.prog X.w) (X.A.deeper (envOfC qg sg s.heap.objs.size g cdg)) (.call (.ref f) ⟨[], []⟩) (CR (L2.CX X.prog X.w) (envOfC qg sg s.heap.objs.size g cdg :: X.stack) X.prog X.w HZ s1 Q E) s1 := by
    refine PySem.W.kla_callFunE hr.depth of1 rfl r.n.co r.n.gen rfl ⟨c', oc, vs, t, rfl, hoc, hdc, hvc⟩ (hb _ _ _ _ ?_)
    refine wpAny_newFunctionEnv (fun y hy => (r.n.own y hy).1) hloc (fun h₁ hns hsb => ⟨I1.nolimit.fresh _ hsb, ?_⟩) r.n.kind
    show codeAny _ _ (.expr body (lamE X scope s1.heap.objs.size f c')) _ _
    have kp : ∀ b o, s1.heap.get? b = some o → h₁.get? b = some o := fun b o e => hsb.extBut b o (Nat.ne_of_lt (Heap.lt_size e)) (Heap.get?_push_of_some _ e)
    have J : Inv (LamX.lamCx X (X.A.deeper (envOfC qg sg s.heap.objs.size g cdg)) (envOfC qg sg s.heap.objs.size g cdg :: X.stack) s1 HZ E scope f c') [] σ HZ { s1 with heap := h₁, toks := s1.toks + binds.length } := lam_enter I r.n I1.env0 hr.hd un hns kp
    refine PySem.W.kla_codeExpr (wpAny_mono ((r.run _ _ s1 HZ E f c' (hr.deeper _)).run [] _ _ HZ Q J ht) (fun v s' hq => ?_) fun e s' hq => hq)
    obtain ⟨w', H', J', rv, q⟩ := hq
    exact ⟨w', H', J'.os, J'.bare, J'.base, J'.hok, rv, q⟩
  refine wpAny_call (codeAny_mono rc fun r s' hq => ?_)
  cases r with
  | error e => exact tk e s' (XE.of_call I1 hE hq)
  | ok fl =>
    cases fl with
    | ret u => exact I1.after hq
    | next => exact False.elim hq
    | brk => exact False.elim hq
    | cont => exact False.elim hq
end
/-- x(e), e a lambda -/
def tGive (X : Cx) (k : Nat) (TT : (XK → Hp → VK → Prop) → Hp → VK → Prop) (t : TA) : TE := fun σ H Q => t σ H fun vs H1 => ∃ f tb, vs = [.ref f] ∧ LamV X k tb H1 f ∧ TT (fun E H' Q' => tb E σ H' Q') H1 Q
section
variable {X : Cx}
theorem pe_give {TT : (XK → Hp → VK → Prop) → Hp → VK → Prop} {x a : Str} {g : Addr} {k : Nat} {st : Stmt} {fd : FuncData} {Ng : List Str} {e : Expr} {t : TA} {p pos : Pos} (F : Fun X.K x x st g fd) (hg : Gl X x) (hm : X.mg x = some (.ref g)) (hb : Binds X.K fd [a] []) (Sg : FnScope Ng [a] (defScope st)) (hNg : Ng[0]? = some a) (hva : Vis (defScope st) a)
    (hG : ∀ cdv, Gives X (k + 1) Ng x (defScope st) g cdv (defBody st) a TT) (hr : Room (k + 2) X.A) (ha : PA X [e] t)
    (hdb : (x == ("__debug__" : Str)) = false := by decide) (hd : (a == ("__debug__" : Str)) = false := by decide) (hcd : (a == ("__classdict__" : Str)) = false := by decide) (he : starEach [e] X.env = [(false, eval e X.env)] := by rfl) :
    PE X (.Call (.Name x p) [e] [] pos) (tGive X k TT t) := by
  refine ⟨fun pins s σ H Q I h => ?_⟩
  obtain ⟨oc, od, kV, doc, pm, an, cdv, ct, osl, rfl, lk, hcg⟩ := F.ex
  refine wpAny_Call_Name_kw (ld_glob I hg hm ?_ hdb)
  refine PySem.W.callWith_K (h₀ := X.base) I.ok.mod.kin F.kp (thn (ha.run pos pins s σ H _ I h) fun us s1 hh => ?_) he (by rfl)
  obtain ⟨vs, H1, I1, r, f, tb, rfl, hl, q⟩ := hh
  refine ⟨I1.kIn, ?_⟩
  have hb1 := hb s1 us I1.kIn (by rw [List.append_nil, ← r.length]; rfl)
  rw [List.append_nil] at hb1
  have rc : codeAny (model X.prog X.w) X.A (.call (.ref g) ⟨us, []⟩) (CR CX0 X.stack X.prog X.w H1 s1 Q E0) s1 := by
    refine LamX.run_ofS (N := Ng) (ps := [a]) (us := us) (vs := [.ref f]) lk hcg Sg hr I1.env0 hb1 r rfl fun hr' => ?_
    obtain ⟨t', ht', hq'⟩ := hG cdv f s1 H1 Q (fun HZ => LamV X k tb HZ f) (fun E H' Q' => tb E σ H' Q') hr' (fun W pn xe p1 p2 tk => pe_actV I1 tk hr' hNg hva hd hcd) hl q
    exact ⟨t', ht'.nox, hq'⟩
  refine wpAny_call (codeAny_mono rc fun r s2 hq => ?_)
  cases r with
  | error e => exact (show False from hq).elim
  | ok fl =>
    cases fl with
    | ret u => exact I1.after hq
    | next => exact False.elim hq
    | brk => exact False.elim hq
    | cont => exact False.elim hq
end
/-! ### what the printed terms want -/
theorem lamN_by2 {X : Cx} {N : List Str} {sc scope : Scope} {x : Option Str} (h : lamNB N sc scope x = true) (hN : X.N = N := by rfl) (hs : X.env.scope = sc := by rfl) : LamN X scope x := lamN_by (by rw [hN, hs]; exact h)
theorem passLam {X : Cx} {A : Around} {outer : List Env} {s : Shared} {H : Hp} {E : XK} {scope : Scope} {f c' : Addr} : Passes (L2.CX X.prog X.w) (LamX.lamCx X A outer s H E scope f c') E :=
  passes_call (W := fun cls d _ H => E cls d H) (takes_of rfl rfl rfl rfl) fun _ _ _ _ h => h
theorem _root_.L2.Fun.okC {P : Program} {w : World} {K : PySem.W.Frag} {mg : Str → Option Value} {base : Heap} {x qual : Str} {st : Stmt} {f : Addr} {fd : FuncData} {N ps : List Str} {k : Nat} {sp : Sp} (F : Fun K x qual st f fd) (S : FnScope N ps (defScope st)) (len : ∀ vs H Q E, sp vs H Q E → vs.length = ps.length)
    (hbody : ∀ (cdv : Value) (A : Around) (outer : List Env) (s : Shared) (H : Hp) (vs : List V) (Q : VK) (E : XK), fd.code = cdv → Room k (A.deeper (envOfC qual (defScope st) s.heap.objs.size f cdv)) → sp vs H Q E →
      ∃ t, PSs (cxOf CX0 P w K mg base N qual (defScope st) f cdv A outer s H E).nox (defBody st) t ∧ t { nx := fun _ H' => Q .non H', rt := Q } (L2.start N vs) H) : FnOk P w K mg base CX0 (k + 1) f fd ps sp := by
  obtain ⟨oc, od, kV, doc, pm, an, cdv, ct, osl, rfl, lk, hcd⟩ := F.ex
  exact fn_of lk hcd S len fun A outer s H vs Q E hr hsp => let ⟨t, h, q⟩ := hbody cdv A outer s H vs Q E rfl hr hsp; ⟨t, h.nox, q⟩
/-- C(..) in a try -/
def tMakeE (n : Nat) (W : WX) (C : Addr) (sp : Sp) (t : TA) : TE := fun σ H Q => ∃ E : XK, (∀ cls d σ' H', σ'.length = n → E cls d H' → W cls d σ' H') ∧ tMake C sp [] E t σ H Q
theorem pe_makeE {X : Cx} {W : WX} {n k : Nat} {f C : Addr} {fd : FuncData} {ps : List Str} {sp : Sp} {x : Str} {p pos : Pos} {e : Expr} {es : List Expr} {t : TA} (M : Mk X.K C f) (F : FnOk X.prog X.w X.K X.mg X.base (L2.CX X.prog X.w) k f fd ps sp) (hr : Room (k + 1) X.A) (hg : Gl X x) (hm : X.mg x = some (.ref C)) (hb : Binds X.K fd ps []) (tk : Takes X W)
    (ha : PA X (e :: es) t) (hn : X.N.length = n := by rfl) (hdb : (x == ("__debug__" : Str)) = false := by decide) (he : starEach (e :: es) X.env = (false, eval e X.env) :: starEach es X.env := by rfl) (hpl : (backTo pos (starEach es X.env)).any (·.1) = false := by rfl) :
    PE X (.Call (.Name x p) (e :: es) [] pos) (tMakeE n W C sp t) := by
  refine ⟨fun pins s σ H Q I h => ?_⟩
  obtain ⟨E, hE, h⟩ := h
  exact (pe_make (E := E) M F hr hg hm hb .nil (fun pins σ H s e s' J c => tk e s' (XE.of_call J (fun cls d H' h => hE cls d σ H' (J.len.trans hn) h) c)) ha hdb he hpl).run pins s σ H Q I h
section
variable {σ : L2.St} {H : Hp} {Q : VK}
theorem w_makeE {n : Nat} {W : WX} {C : Addr} {sp : L2.Sp} {t : TA} {E : XK} (hE : ∀ cls d σ' H', σ'.length = n → E cls d H' → W cls d σ' H') (q : t σ H fun vs H1 => MadeQ C sp E vs Q H1) : tMakeE n W C sp t σ H Q := ⟨E, hE, w_make q⟩
theorem w_act {f : Addr} {P0 : Hp → Prop} {tl : XK → Hp → VK → Prop} {W : WX} {E : XK} (hE : ∀ cls d H', E cls d H' → W cls d σ H') (hs : σ[0]? = some (some (.ref f))) (hp : P0 H) (q : tl E H Q) : tAct f P0 tl W σ H Q := ⟨E, hE, hs, hp, q⟩
theorem w_lamV {X : Cx} {k : Nat} {T : List (Addr × Str)} {tb : XK → TE} (hT : LamX.Tabs T H) (q : ∀ f H1, LamX.ExtN H H1 → LamX.Tabs T H1 → LamV X k tb H1 f → Q (.ref f) H1) : tLamV X k T tb σ H Q := ⟨hT, q⟩
theorem w_give {X : Cx} {k : Nat} {TT : (XK → Hp → VK → Prop) → Hp → VK → Prop} {t : TA} (q : t σ H fun vs H1 => ∃ f tb, vs = [.ref f] ∧ LamV X k tb H1 f ∧ TT (fun E H' Q' => tb E σ H' Q') H1 Q) : tGive X k TT t σ H Q := q
theorem w_given {X : Cx} {k : Nat} {TT : (XK → Hp → VK → Prop) → Hp → VK → Prop} {f : Addr} {tb : XK → TE} (h : LamV X k tb H f) (q : TT (fun E H' Q' => tb E σ H' Q') H Q) : ∃ f' tb, [V.ref f] = [.ref f'] ∧ LamV X k tb H f' ∧ TT (fun E H' Q' => tb E σ H' Q') H Q := ⟨f, tb, rfl, h, q⟩
end
end Sp
/-! ## Unpacking part by part -/
namespace Sp
open PySem PySem.Spec PyProof.Rows L2
section
variable {g : List Nat} {z : Nat} {cap : Int}
def unpA (g : List Nat) (z : Nat) (cap : Int) (st : St2) (L : Nat) (word bits : Word) : UnpR := unpS g z cap (L + bits.length) st L word bits
theorem unpA_zero {st : St2} {word bits : Word} : unpA g z cap st 0 word bits = ⟨[], st, word, bits⟩ := unp_zero
theorem unpA_sign {st : St2} {L : Nat} {word bits : Word} (hl : L ≠ 0) (hw : word ∈ codesL st.1) : unpA g z cap st L word bits = ⟨signOf g st.1 word :: (unpA g z cap (tookS g z cap st (signOf g st.1 word)) (L - 1) [] bits).told, (unpA g z cap (tookS g z cap st (signOf g st.1 word)) (L - 1) [] bits).st, (unpA g z cap (tookS g z cap st (signOf g st.1 word)) (L - 1) [] bits).word, (unpA g z cap (tookS g z cap st (signOf g st.1 word)) (L - 1) [] bits).rest⟩ := by
  unfold unpA
  rw [show L + bits.length = (L - 1 + bits.length) + 1 by omega, unp_sign hl hw]
theorem unpA_bit {st : St2} {L d : Nat} {word ds : Word} (hl : L ≠ 0) (hw : word ∉ codesL st.1) : unpA g z cap st L word (d :: ds) = unpA g z cap st L (word ++ [d]) ds := by
  unfold unpA
  rw [List.length_cons, ← Nat.add_assoc, unp_bit hl hw]
theorem unpA_stop {st : St2} {L : Nat} {word : Word} (hw : word ∉ codesL st.1) : unpA g z cap st L word [] = ⟨[], st, word, []⟩ := unp_stop hw
theorem unpA_app : ∀ (m : Nat) (st : St2) (L : Nat) (word b1 b2 : Word), m = L + b1.length →
    ((unpA g z cap st L word b1).rest = [] → unpA g z cap st L word (b1 ++ b2) = ⟨(unpA g z cap st L word b1).told ++ (unpA g z cap (unpA g z cap st L word b1).st (L - (unpA g z cap st L word b1).told.length) (unpA g z cap st L word b1).word b2).told, (unpA g z cap (unpA g z cap st L word b1).st (L - (unpA g z cap st L word b1).told.length) (unpA g z cap st L word b1).word b2).st,
      (unpA g z cap (unpA g z cap st L word b1).st (L - (unpA g z cap st L word b1).told.length) (unpA g z cap st L word b1).word b2).word, (unpA g z cap (unpA g z cap st L word b1).st (L - (unpA g z cap st L word b1).told.length) (unpA g z cap st L word b1).word b2).rest⟩) ∧
    ((unpA g z cap st L word b1).rest ≠ [] → (unpA g z cap st L word (b1 ++ b2)).rest = (unpA g z cap st L word b1).rest ++ b2) := by
  intro m
  induction m with
  | zero =>
    intro st L word b1 b2 e
    have e1 : L = 0 := by omega
    have e2 : b1 = [] := List.length_eq_zero_iff.mp (by omega)
    subst e1 e2
    rw [unpA_zero]
    exact ⟨fun _ => by rw [List.nil_append]; rfl, fun h => (h rfl).elim⟩
  | succ m ih =>
    intro st L word b1 b2 e
    by_cases hl : L = 0
    · subst hl
      rw [unpA_zero, unpA_zero]
      refine ⟨fun h => ?_, fun _ => rfl⟩
      have h : b1 = [] := h
      subst h
      rw [List.nil_append, List.length_nil, Nat.sub_zero, unpA_zero]
      rfl
    · by_cases hw : word ∈ codesL st.1
      · rw [unpA_sign hl hw, unpA_sign (bits := b1 ++ b2) hl hw]
        obtain ⟨i1, i2⟩ := ih (tookS g z cap st (signOf g st.1 word)) (L - 1) [] b1 b2 (by omega)
        refine ⟨fun h => ?_, fun h => i2 h⟩
        rw [i1 h]
        dsimp only
        rw [List.length_cons, show L - 1 - (unpA g z cap (tookS g z cap st (signOf g st.1 word)) (L - 1) [] b1).told.length = L - ((unpA g z cap (tookS g z cap st (signOf g st.1 word)) (L - 1) [] b1).told.length + 1) by omega]
        rfl
      · cases b1 with
        | nil =>
          rw [unpA_stop hw]
          exact ⟨fun _ => by rw [List.nil_append]; rfl, fun h => (h rfl).elim⟩
        | cons d ds =>
          rw [List.cons_append, unpA_bit hl hw, unpA_bit hl hw]
          exact ih st L (word ++ [d]) ds b2 (by rw [List.length_cons] at e; omega)
theorem unpA_whole (b : BookOk g z cap) {w : List Nat} {st : St2} {ex : Word} (ok : StOk g z st) (h : ∀ c ∈ w, c ∈ g) : unpA g z cap st w.length [] (packS g z cap st w ++ ex) = ⟨w, runS g z cap st w, [], ex⟩ := by
  have e := unp_pack b w st ex.length 0 ex ok h
  rw [Nat.add_zero, unp_zero, List.append_nil] at e
  unfold unpA
  rw [List.length_append, show w.length + ((packS g z cap st w).length + ex.length) = ex.length + w.length + (packS g z cap st w).length by omega]
  exact e
/-- a beginning of packed signs, then the rest of them and more -/
theorem unpA_two (b : BookOk g z cap) {w : List Nat} {st : St2} {b1 b2 : Word} (ok : StOk g z st) (h : ∀ c ∈ w, c ∈ g) (hb : b1 ++ b2 = packS g z cap st w) :
    (unpA g z cap st w.length [] b1).rest = [] ∧ ∀ ex, ∃ w2, w = (unpA g z cap st w.length [] b1).told ++ w2 ∧ unpA g z cap (unpA g z cap st w.length [] b1).st (w.length - (unpA g z cap st w.length [] b1).told.length) (unpA g z cap st w.length [] b1).word (b2 ++ ex) = ⟨w2, runS g z cap st w, [], ex⟩ := by
  have key : ∀ ex, unpA g z cap st w.length [] (b1 ++ (b2 ++ ex)) = ⟨w, runS g z cap st w, [], ex⟩ := fun ex => by rw [← List.append_assoc, hb]; exact unpA_whole b ok h
  have r0 : (unpA g z cap st w.length [] b1).rest = [] := by
    refine Classical.byContradiction fun hn => ?_
    have e := (unpA_app (g := g) (z := z) (cap := cap) _ st w.length [] b1 (b2 ++ []) rfl).2 hn
    rw [key []] at e
    exact hn (List.append_eq_nil_iff.mp e.symm).1
  refine ⟨r0, fun ex => ?_⟩
  have e := (unpA_app (g := g) (z := z) (cap := cap) _ st w.length [] b1 (b2 ++ ex) rfl).1 r0
  rw [key ex] at e
  generalize unpA g z cap (unpA g z cap st w.length [] b1).st (w.length - (unpA g z cap st w.length [] b1).told.length) (unpA g z cap st w.length [] b1).word (b2 ++ ex) = R at e ⊢
  obtain ⟨t, s, wd, rs⟩ := R
  injection e with e1 e2 e3 e4
  dsimp only at e1 e2 e3 e4
  subst e2 e3 e4
  exact ⟨t, e1, rfl⟩
theorem unpO_A {bits : Word} {m : Nat} (h : m ≤ 2000) (hb : ∀ c ∈ bits, c = 48 ∨ c = 49) : unpO g z cap bits (.int (m : Int)) = endO (unpA g z cap (st0 g) m [] bits) m := unpO_end h hb
/-- the last bit is out -/
theorem unpO_cut (b : BookOk g z cap) {w : List Nat} (h : ∀ c ∈ w, c ∈ g) (lw : w.length ≤ 2000) (hn : packS g z cap (st0 g) w ≠ []) : unpO g z cap (packS g z cap (st0 g) w).dropLast (.int ((w.length : Nat) : Int)) = .short := by
  have h01 := (packS_bits (st := st0 g) b (ones_ok b) h).1
  have hb := List.dropLast_concat_getLast hn
  obtain ⟨r0, two⟩ := unpA_two (st := st0 g) b (ones_ok b) h hb
  obtain ⟨w2, ew, e2⟩ := two []
  rw [unpO_A lw fun c hc => h01 c ((List.dropLast_sublist _).subset hc)]
  unfold endO
  rw [if_pos r0]
  have lt : (unpA g z cap (st0 g) w.length [] (packS g z cap (st0 g) w).dropLast).told.length < w.length := by
    rcases Nat.lt_or_ge (unpA g z cap (st0 g) w.length [] (packS g z cap (st0 g) w).dropLast).told.length w.length with q | q
    · exact q
    · rw [Nat.sub_eq_zero_of_le q, unpA_zero, List.append_nil] at e2
      injection e2 with _ _ _ e4
      cases e4
  rw [if_pos lt]
theorem one_codes {st : St2} (ok : StOk g z st) (h1 : g.length = 1) : ([] : Word) ∈ codesL st.1 := by
  have l1 : st.1.length = 1 := by rw [ok.len]; exact h1
  have e := codesL_get (ns := st.1) (i := 0) (by omega)
  have lb := (codes_bits (ns := st.1) (by omega) (i := 0) (by omega)).2
  have e2 : wayL st.1 0 = [] := List.length_eq_zero_iff.mp (by omega)
  rw [e2] at e
  exact List.mem_of_getElem? e
theorem one_told (b : BookOk g z cap) (h1 : g.length = 1) : ∀ (L : Nat) (st : St2), StOk g z st → (unpA g z cap st L [] []).told.length = L ∧ (unpA g z cap st L [] []).rest = []
  | 0, st, _ => by rw [unpA_zero]; exact ⟨rfl, rfl⟩
  | L + 1, st, ok => by
    rw [unpA_sign (by omega) (one_codes ok h1)]
    obtain ⟨i1, i2⟩ := one_told b h1 L (tookS g z cap st (signOf g st.1 [])) (tookS_ok b ok)
    refine ⟨?_, i2⟩
    show (unpA g z cap (tookS g z cap st (signOf g st.1 [])) L [] []).told.length + 1 = L + 1
    rw [i1]
theorem one_pack (b : BookOk g z cap) (h1 : g.length = 1) : ∀ (w : List Nat) (st : St2), StOk g z st → (∀ c ∈ w, c ∈ g) → packS g z cap st w = []
  | [], _, _, _ => rfl
  | c :: w, st, ok, h => by
    have hc := h c List.mem_cons_self
    obtain ⟨hi, _, e⟩ := wordAt_way ok hc
    have lb := (codes_bits ok.good.pos hi).2
    have l1 : st.1.length = 1 := by rw [ok.len]; exact h1
    have e2 : wordAt g st.1 c = [] := List.length_eq_zero_iff.mp (by rw [e]; omega)
    show wordAt g st.1 c ++ packS g z cap (tookS g z cap st c) w = []
    rw [e2, one_pack b h1 w _ (tookS_ok b ok) fun d hd => h d (List.mem_cons_of_mem _ hd)]
    rfl
theorem unpO_one (b : BookOk g z cap) (h1 : g.length = 1) {m : Nat} (hm : m ≤ 2000) : ∃ w, unpO g z cap [] (.int (m : Int)) = .told w := by
  obtain ⟨i1, i2⟩ := one_told b h1 m (st0 g) (ones_ok b)
  rw [unpO_A hm fun c hc => (List.not_mem_nil hc).elim]
  unfold endO
  rw [if_pos i2, if_neg (by omega)]
  exact ⟨_, rfl⟩
theorem wordAt_ne {st : St2} {c : Nat} (ok : StOk g z st) (h : c ∈ g) (h2 : 2 ≤ g.length) : wordAt g st.1 c ≠ [] := fun e => codes_none ok h2 (e ▸ wordAt_mem ok h)
/-- one sign fewer is asked for than there are -/
theorem unpO_less (b : BookOk g z cap) {w : List Nat} (h : ∀ c ∈ w, c ∈ g) (h2 : 2 ≤ g.length) (lw : w.length ≤ 2000) (h0 : 1 ≤ w.length) : unpO g z cap (packS g z cap (st0 g) w) (.int ((w.length - 1 : Nat) : Int)) = .loose := by
  have hne : w ≠ [] := fun e => by rw [e] at h0; exact absurd h0 (by decide)
  have hw := List.dropLast_concat_getLast hne
  have hl := h _ (List.getLast_mem hne)
  have hd : ∀ c ∈ w.dropLast, c ∈ g := fun c hc => h c ((List.dropLast_sublist _).subset hc)
  have ok2 := runS_ok (w := w.dropLast) (st := st0 g) b (ones_ok b)
  have e : packS g z cap (st0 g) w = packS g z cap (st0 g) w.dropLast ++ wordAt g (runS g z cap (st0 g) w.dropLast).1 (w.getLast hne) := by
    have e1 : packS g z cap (st0 g) w = packS g z cap (st0 g) (w.dropLast ++ [w.getLast hne]) := by rw [hw]
    rw [e1, packS_app]
    congr 1
    show _ ++ [] = _
    rw [List.append_nil]
  have ln : w.length - 1 = w.dropLast.length := (List.length_dropLast).symm
  rw [e, ln]
  exact unpO_loose b hd (wordAt_bits ok2 hl).1 (wordAt_ne ok2 hl h2) (by rw [List.length_dropLast]; omega)
end
/-! ### what stands behind a lambda's making -/
theorem BookAt.ext {C : Addr} {H H' : Hp} {b : Addr} {g : List Nat} {z : Nat} {cap : Int} (h : BookAt C H b g z cap) (e : LamX.ExtN H H') : BookAt C H' b g z cap := let ⟨dx, q⟩ := h; ⟨dx, e _ _ q (fun ps y => by cases y)⟩
theorem LearnAt.ext {C : Addr} {H H' : Hp} {p b : Addr} {ns : List Int} {wt : List Nat} (h : LearnAt C H p b ns wt) (e : LamX.ExtN H H') : LearnAt C H' p b ns wt := by
  obtain ⟨dx, sa, wa, e1, e2, e3⟩ := h.ex
  exact ⟨dx, sa, wa, e _ _ e1 (fun ps y => by cases y), e _ _ e2 (fun ps y => by cases y), e _ _ e3 (fun ps y => by cases y)⟩
theorem PackAt.ext {C : Addr} {H H' : Hp} {k p b : Addr} (h : PackAt C H k p b) (e : LamX.ExtN H H') : PackAt C H' k p b := let ⟨dx, q⟩ := h; ⟨dx, e _ _ q (fun ps y => by cases y)⟩
theorem UnpAt.ext {C : Addr} {H H' : Hp} {k p b : Addr} {left : Nat} {rest : Word} (h : UnpAt C H k p b left rest) (e : LamX.ExtN H H') : UnpAt C H' k p b left rest := let ⟨dx, q⟩ := h; ⟨dx, e _ _ q (fun ps y => by cases y)⟩
theorem sq_ext {K : PySem.W.Frag} {H H' : Hp} {a : Addr} {xs : List V} (h : SqL K H a xs) (e : LamX.ExtN H H') : SqL K H' a xs := by
  rcases h with (h | ⟨o, h⟩) | h
  · exact .inl (.inl (e _ _ h (fun ps z => by cases z)))
  · exact .inl (.inr ⟨o, e _ _ h (fun ps z => by cases z)⟩)
  · exact .inr h
/-- a text with a sign that the book has not -/
def BadSg (CB CS : Addr) (H : Hp) (E : XK) (b : Addr) (w : List Nat) : Prop := ∃ g z cap, BookAt CB H b g z cap ∧ BookOk g z cap ∧ (¬ ∀ c ∈ w, c ∈ g) ∧ ∀ H', Same H H' → E (.ref CS) none H'
theorem BadSg.same {CB CS : Addr} {H H1 : Hp} {E : XK} {b : Addr} {w : List Nat} (h : BadSg CB CS H E b w) (s : Same H H1) : BadSg CB CS H1 E b w := let ⟨g, z, cap, h1, h2, h3, h4⟩ := h; ⟨g, z, cap, h1.same s, h2, h3, fun H' s' => h4 H' (s.trans s')⟩
theorem tabs_sameP {T : List (Addr × Str)} {p C dx : Addr} {fs : List (Str × V)} {H H' : Hp} (hT : LamX.Tabs T H) (s : SameP p H H') (hp : H p = some (.ins C dx fs)) : LamX.Tabs T H' := fun q hq => by
  obtain ⟨ps, h1, h2, h3⟩ := hT q hq
  refine ⟨ps, s.at' h1 hp (by intro z; cases z), h2, fun pos cv e => ?_⟩
  obtain ⟨c, e1, e2⟩ := h3 pos cv e
  exact ⟨c, e1, s.at' e2 hp (by intro z; unfold LamX.CodeO at z; cases z)⟩
theorem extN_sameP {p : Addr} {H Hm H1 H2 : Hp} (x : LamX.ExtN H H1) (xm : LamX.ExtN H Hm) (n : Hm p = none) (s : SameP p H1 H2) : LamX.ExtN H H2 := fun b o e nt => s b o (ne_of_none (xm b o e nt) n) (x b o e nt)
theorem runS_wait {g : List Nat} {z : Nat} {cap : Int} : ∀ {w : List Nat} {st : St2}, (∀ c ∈ st.2, c ∈ g) → (∀ c ∈ w, c ∈ g) → ∀ c ∈ (runS g z cap st w).2, c ∈ g
  | [], _, h, _ => h
  | d :: w, st, h, hw => by
    show ∀ c ∈ (runS g z cap (tookS g z cap st d) w).2, c ∈ g
    refine runS_wait (fun c hc => ?_) fun c hc => hw c (List.mem_cons_of_mem _ hc)
    unfold tookS at hc
    split at hc
    · exact (List.not_mem_nil hc).elim
    · rcases List.mem_append.mp hc with q | q
      · exact h c q
      · rw [List.mem_singleton.mp q]
        exact hw d List.mem_cons_self
/-- the state behind what is told -/
theorem unp_st {g : List Nat} {z : Nat} {cap : Int} (b : BookOk g z cap) : ∀ (n : Nat) (st : St2) (L : Nat) (word bits : Word), StOk g z st → (unpS g z cap n st L word bits).st = runS g z cap st (unpS g z cap n st L word bits).told ∧ (∀ c ∈ (unpS g z cap n st L word bits).told, c ∈ g) ∧ (unpS g z cap n st L word bits).word.length ≤ word.length + bits.length
  | 0, st, L, word, bits, _ => ⟨rfl, fun c hc => (List.not_mem_nil hc).elim, Nat.le_add_right _ _⟩
  | n + 1, st, L, word, bits, ok => by
    by_cases hl : L = 0
    · subst hl
      rw [unp_zero]
      exact ⟨rfl, fun c hc => (List.not_mem_nil hc).elim, Nat.le_add_right _ _⟩
    · by_cases hw : word ∈ codesL st.1
      · rw [unp_sign hl hw]
        obtain ⟨i1, i2, i3⟩ := unp_st b n (tookS g z cap st (signOf g st.1 word)) (L - 1) [] bits (tookS_ok b ok)
        refine ⟨i1, fun c hc => ?_, Nat.le_trans i3 (by rw [List.length_nil]; omega)⟩
        rcases List.mem_cons.mp hc with rfl | hc
        · exact (sign_is b ok hw).1
        · exact i2 c hc
      · cases bits with
        | nil =>
          rw [unp_stop hw]
          exact ⟨rfl, fun c hc => (List.not_mem_nil hc).elim, Nat.le_add_right _ _⟩
        | cons d ds =>
          rw [unp_bit hl hw]
          obtain ⟨i1, i2, i3⟩ := unp_st b n st L (word ++ [d]) ds ok
          exact ⟨i1, i2, by rw [List.length_append, List.length_singleton] at i3; rw [List.length_cons]; omega⟩
end Sp
namespace Sp
open PySem L2
local macro_rules | `(tactic| walk_at "look") => `(tactic| first
  | assumption
  | exact SqL.of (by assumption)
  | exact SqT.of (by assumption)
  | ((apply Same.seq); (first | assumption | (apply Sp.same_new; assumption)); walk_at "look")
  | ((apply Sp.Same.tup); (first | assumption | (apply Sp.same_new; assumption)); walk_at "look")
  | ((apply Sp.Same.at); (first | assumption | (apply Sp.same_new; assumption)); walk_at "look")
  | (refine Sp.SameP.at (by assumption) (by walk_at "look") (by first | assumption | exact Ne.symm (by assumption)))
  | (refine Sp.SameP.at' (by assumption) (by walk_at "look") (by assumption) (by intro q; cases q)))
local macro_rules | `(tactic| walk_at "lk") => `(tactic| first
  | exact Sp.lk_eq
  | exact Sp.lk_nil
  | exact Sp.lk_ne (by decide +kernel) (by walk_at "lk"))
local macro_rules | `(tactic| walk_at "pf") => `(tactic| first
  | exact Sp.pf_nil
  | exact Sp.pf_eq
  | exact Sp.pf_ne (by decide +kernel) (by walk_at "pf"))
local macro_rules | `(tactic| walk_at "put") => `(tactic| refine Sp.w_sfld1 (by walk_at "look") (by assumption) (by assumption) (by simp only [List.length_cons, List.length_nil]; decide) (by walk_at "pf") ?_)
local macro_rules | `(tactic| walk_at "isi") => `(tactic| first
  | (with_reducible apply Sp.isi_int_int)
  | (with_reducible apply Sp.isi_int_bool)
  | (with_reducible apply Sp.isi_int_str)
  | (with_reducible apply Sp.isi_int_list)
  | (with_reducible apply Sp.isi_int_tuple)
  | (with_reducible apply Sp.isi_bl_int)
  | (with_reducible apply Sp.isi_bl_bool)
  | (with_reducible apply Sp.isi_bl_str)
  | (with_reducible apply Sp.isi_bl_list)
  | (with_reducible apply Sp.isi_bl_tuple)
  | (with_reducible apply Sp.isi_non_int)
  | (with_reducible apply Sp.isi_non_bool)
  | (with_reducible apply Sp.isi_non_str)
  | (with_reducible apply Sp.isi_non_list)
  | (with_reducible apply Sp.isi_non_tuple)
  | (with_reducible apply Sp.isi_str_int)
  | (with_reducible apply Sp.isi_str_bool)
  | (with_reducible apply Sp.isi_str_str)
  | (with_reducible apply Sp.isi_str_list)
  | (with_reducible apply Sp.isi_str_tuple)
  | ((with_reducible apply Sp.isi_lst_int); walk_at "look")
  | ((with_reducible apply Sp.isi_lst_bool); walk_at "look")
  | ((with_reducible apply Sp.isi_lst_str); walk_at "look")
  | ((with_reducible apply Sp.isi_lst_list); walk_at "look")
  | ((with_reducible apply Sp.isi_lst_tuple); walk_at "look")
  | ((with_reducible apply Sp.isi_tup_int); walk_at "look")
  | ((with_reducible apply Sp.isi_tup_bool); walk_at "look")
  | ((with_reducible apply Sp.isi_tup_str); walk_at "look")
  | ((with_reducible apply Sp.isi_tup_list); walk_at "look")
  | ((with_reducible apply Sp.isi_tup_tuple); walk_at "look"))
local macro_rules | `(tactic| walk_at "s") => `(tactic| first
  | ((with_reducible apply Sp.w_var); exact rfl)
  | (with_reducible apply Sp.w_c)
  | (with_reducible apply Sp.w_op)
  | (with_reducible apply Sp.w_I0)
  | ((with_reducible apply Sp.w_I); (first | (show (0 : Int) < _; decide) | exact ⟨by decide, by decide⟩ | exact ⟨by omega, by omega⟩ | (show (0 : Int) < _; omega) | exact .inl ⟨by decide, by decide⟩ | exact .inr ⟨by decide, by decide⟩ | exact .inl ⟨by omega, by omega⟩ | exact .inr ⟨by omega, by omega⟩))
  | (with_reducible apply Sp.w_rfl)
  | (with_reducible apply Sp.w_ints2)
  | (with_reducible apply Sp.w_inS)
  | (with_reducible apply Sp.w_M1)
  | (with_reducible apply Sp.w_M1s)
  | (with_reducible apply Sp.w_two)
  | (with_reducible apply Sp.w_int1)
  | (with_reducible apply Sp.w_int1b)
  | ((with_reducible apply Sp.w_lenK); walk_at "look")
  | ((with_reducible apply Sp.w_listK); walk_at "look")
  | ((with_reducible apply Sp.w_sum); walk_at "look")
  | (with_reducible apply Sp.w_for)
  | (with_reducible apply Sp.w_lc)
  | (with_reducible apply Sp.w_iList)
  | ((with_reducible apply Sp.w_itL); walk_at "look")
  | (with_reducible apply Sp.w_iStr)
  | (with_reducible apply Sp.w_str)
  | (with_reducible apply Sp.w_iRng1)
  | ((with_reducible apply Sp.w_rng1); omega; omega)
  | (with_reducible apply Sp.w_iRev)
  | ((with_reducible apply Sp.w_rev); omega; omega)
  | (with_reducible apply Sp.w_iZip)
  | ((with_reducible apply Sp.w_zip); walk_at "look"; walk_at "look")
  | (with_reducible apply Sp.w_iEnum)
  | ((with_reducible apply Sp.w_enum); walk_at "look")
  | ((with_reducible apply Sp.w_gTup); walk_at "look"; exact rfl)
  | (with_reducible apply Sp.w_gCons)
  | (with_reducible apply Sp.w_gNil)
  | (with_reducible apply Sp.w_gSub)
  | (with_reducible apply Sp.w_N)
  | (with_reducible apply Sp.w_tyS)
  | ((with_reducible apply Sp.w_tyL); walk_at "look")
  | ((with_reducible apply Sp.w_slL); walk_at "look")
  | (with_reducible show rIsi _ _ _ _; walk_at "isi")
  | (with_reducible apply Sp.w_cons)
  | (with_reducible apply Sp.w_nil)
  | (with_reducible apply Sp.w_call)
  | (with_reducible apply Sp.w_cb)
  | (with_reducible apply Sp.w_seq)
  | (with_reducible apply Sp.w_asg)
  | (with_reducible apply Sp.w_ret)
  | (with_reducible apply Sp.w_ifS)
  | (with_reducible apply Sp.w_test)
  | (with_reducible apply Sp.w_bl)
  | (with_reducible apply Sp.w_iteT)
  | (with_reducible apply Sp.w_iteF)
  | (with_reducible apply Sp.w_iteNF)
  | (with_reducible apply Sp.w_iteNT)
  | ((with_reducible apply Sp.w_eq); exact rfl)
  | ((with_reducible apply Sp.w_ne); exact rfl)
  | (with_reducible apply Sp.w_chain)
  | (with_reducible apply Sp.w_andV)
  | (with_reducible apply Sp.w_orV)
  | (with_reducible apply Sp.w_notV)
  | (with_reducible apply Sp.w_B)
  | (with_reducible apply Sp.w_and)
  | (with_reducible apply Sp.w_or)
  | (with_reducible apply Sp.w_not)
  | (with_reducible refine Sp.w_fld1 (by walk_at "look") (by assumption) (by assumption) (by walk_at "lk") ?_)
  | (with_reducible refine Sp.w_methd (by walk_at "look") (by walk_at "lk") ?_)
  | (with_reducible apply Sp.w_meth)
  | (with_reducible apply Sp.w_make)
  | (with_reducible apply Sp.w_fld)
  | (with_reducible apply Sp.w_int)
  | (with_reducible apply Sp.w_next)
  | (with_reducible apply Sp.w_yes)
  | (with_reducible apply Sp.w_sz0)
  | (with_reducible apply Sp.w_sz1)
  | (with_reducible apply Sp.w_sz2)
  | (with_reducible apply Sp.w_sz3)
  | (with_reducible apply Sp.w_sz4)
  | (with_reducible apply Sp.w_sz5)
  | (with_reducible apply Sp.w_sz6)
  | (with_reducible apply Sp.w_sz7)
  | (with_reducible apply Sp.w_sz8)
  | (with_reducible apply Sp.w_sz9)
  | (with_reducible apply Sp.w_drop)
  | (with_reducible apply Sp.w_tup)
  | (with_reducible apply Sp.w_lst)
  | (with_reducible apply Sp.w_bm)
  | (with_reducible apply Sp.w_bm0)
  | (with_reducible apply Sp.w_sl)
  | (with_reducible apply Sp.w_nopart)
  | (with_reducible apply Sp.w_part)
  | (with_reducible apply Sp.w_gname)
  | (with_reducible apply Sp.w_asgG)
  | (with_reducible apply Sp.w_sfld)
  | (with_reducible apply Sp.w_un)
  | (with_reducible apply Sp.w_neg)
  | (with_reducible apply Sp.w_retN)
  | (with_reducible apply Sp.w_brk)
  | (with_reducible apply Sp.w_cont)
  | (with_reducible apply Sp.w_if)
  | (with_reducible apply Sp.w_raise)
  | (with_reducible apply Sp.w_try)
  | (with_reducible apply Sp.w_callS)
  | (with_reducible apply Sp.w_callE)
  | (with_reducible apply Sp.w_strB)
  | (with_reducible apply Sp.w_jo)
  | (with_reducible apply Sp.w_jcons)
  | (with_reducible apply Sp.w_jnil)
  | (with_reducible apply Sp.w_fmt)
  | (with_reducible apply Sp.w_give))
local macro_rules | `(tactic| walk_at "ss") => `(tactic| repeat (walk_at "s"))
/-! ## The text by places -/
def top (i : Nat) : Stmt := PySem.Challenge.pw_sharepack_k10_refused_bits.main.body.getD i (.Pass ⟨0, 0, 0, 0⟩)
abbrev s_whole : Stmt := top 14
abbrev s_whole_row : Stmt := top 15
abbrev s_need_shares : Stmt := top 16
abbrev s_counted : Stmt := top 17
abbrev s_halved : Stmt := top 18
abbrev s_learnt : Stmt := top 19
abbrev s_pairs : Stmt := top 21
abbrev s_codes : Stmt := top 22
abbrev s_need_signs : Stmt := top 25
abbrev s_Learner_init : Stmt := inClass (top 26) 0
abbrev s_Learner_took : Stmt := inClass (top 26) 1
abbrev s_Learner_copied : Stmt := inClass (top 26) 2
abbrev s_Packer_init : Stmt := inClass (top 27) 0
abbrev s_Packer_put : Stmt := inClass (top 27) 1
abbrev s_Unpacker_init : Stmt := inClass (top 28) 0
abbrev s_Unpacker_put : Stmt := inClass (top 28) 1
abbrev s_pack : Stmt := top 29
abbrev s_unpack : Stmt := top 30
abbrev s_good_signs : Stmt := top 33
abbrev s_Book_init : Stmt := inClass (top 34) 0
abbrev s_report : Stmt := top 36
abbrev s_written : Stmt := top 37
abbrev s_law_cell_at : Stmt := top 39
abbrev s_law_many_by : Stmt := top 40
abbrev s_law_signs_by : Stmt := top 41
abbrev s_law_text_by : Stmt := top 42
abbrev s_law_book_by : Stmt := top 43
abbrev s_law_kinds : Stmt := top 44
abbrev s_law_told : Stmt := top 45
abbrev s_law_count_drawn : Stmt := top 46
abbrev s_law_count_due : Stmt := top 47
abbrev s_law_put_in : Stmt := top 48
abbrev s_law_stands : Stmt := top 49
abbrev s_law_goes_on : Stmt := top 50
abbrev s_law : Stmt := top 51
structure Adr where
  f_whole : Addr
  d_whole : FuncData
  f_whole_row : Addr
  d_whole_row : FuncData
  f_need_shares : Addr
  d_need_shares : FuncData
  f_counted : Addr
  d_counted : FuncData
  f_halved : Addr
  d_halved : FuncData
  f_learnt : Addr
  d_learnt : FuncData
  f_pairs : Addr
  d_pairs : FuncData
  f_codes : Addr
  d_codes : FuncData
  f_need_signs : Addr
  d_need_signs : FuncData
  f_Learner_init : Addr
  d_Learner_init : FuncData
  f_Learner_took : Addr
  d_Learner_took : FuncData
  f_Learner_copied : Addr
  d_Learner_copied : FuncData
  f_Packer_init : Addr
  d_Packer_init : FuncData
  f_Packer_put : Addr
  d_Packer_put : FuncData
  f_Unpacker_init : Addr
  d_Unpacker_init : FuncData
  f_Unpacker_put : Addr
  d_Unpacker_put : FuncData
  f_pack : Addr
  d_pack : FuncData
  f_unpack : Addr
  d_unpack : FuncData
  f_good_signs : Addr
  d_good_signs : FuncData
  f_Book_init : Addr
  d_Book_init : FuncData
  f_report : Addr
  d_report : FuncData
  f_written : Addr
  d_written : FuncData
  f_law_cell_at : Addr
  d_law_cell_at : FuncData
  f_law_many_by : Addr
  d_law_many_by : FuncData
  f_law_signs_by : Addr
  d_law_signs_by : FuncData
  f_law_text_by : Addr
  d_law_text_by : FuncData
  f_law_book_by : Addr
  d_law_book_by : FuncData
  f_law_kinds : Addr
  d_law_kinds : FuncData
  f_law_told : Addr
  d_law_told : FuncData
  f_law_count_drawn : Addr
  d_law_count_drawn : FuncData
  f_law_count_due : Addr
  d_law_count_due : FuncData
  f_law_put_in : Addr
  d_law_put_in : FuncData
  f_law_stands : Addr
  d_law_stands : FuncData
  f_law_goes_on : Addr
  d_law_goes_on : FuncData
  f_law : Addr
  d_law : FuncData
  C_BadBit : Addr
  C_BadBook : Addr
  C_BadCount : Addr
  C_BadLine : Addr
  C_BadShares : Addr
  C_BadSign : Addr
  C_Book : Addr
  C_Learner : Addr
  C_Loose : Addr
  C_PackError : Addr
  C_Packer : Addr
  C_Short : Addr
  C_Unpacker : Addr
  c_law_goes_on : Addr
  P_law_goes_on : Addr
  c_law : Addr
  P_law : Addr
  t_MOST_CAP : Tok
  t_MOST_SHARE : Tok
  t_MOST_SIGNS : Tok
  t_MOST_SIZE : Tok
  t_MOST_TEXT : Tok
/-- what the top has written -/
structure Txt (K : PySem.W.Frag) (mg : Str → Option Value) (A : Adr) : Prop where
  F_whole : Fun K "whole" "whole" s_whole A.f_whole A.d_whole
  b_whole : Binds K A.d_whole ["found", "least", "most"] []
  g_whole : mg "whole" = some (.ref A.f_whole)
  F_whole_row : Fun K "whole_row" "whole_row" s_whole_row A.f_whole_row A.d_whole_row
  b_whole_row : Binds K A.d_whole_row ["row", "least"] []
  g_whole_row : mg "whole_row" = some (.ref A.f_whole_row)
  F_need_shares : Fun K "need_shares" "need_shares" s_need_shares A.f_need_shares A.d_need_shares
  b_need_shares : Binds K A.d_need_shares ["shares"] []
  g_need_shares : mg "need_shares" = some (.ref A.f_need_shares)
  F_counted : Fun K "counted" "counted" s_counted A.f_counted A.d_counted
  b_counted : Binds K A.d_counted ["signs", "block"] []
  g_counted : mg "counted" = some (.ref A.f_counted)
  F_halved : Fun K "halved" "halved" s_halved A.f_halved A.d_halved
  b_halved : Binds K A.d_halved ["shares"] []
  g_halved : mg "halved" = some (.ref A.f_halved)
  F_learnt : Fun K "learnt" "learnt" s_learnt A.f_learnt A.d_learnt
  b_learnt : Binds K A.d_learnt ["shares", "counts", "cap"] []
  g_learnt : mg "learnt" = some (.ref A.f_learnt)
  F_pairs : Fun K "pairs" "pairs" s_pairs A.f_pairs A.d_pairs
  b_pairs : Binds K A.d_pairs ["shares"] []
  g_pairs : mg "pairs" = some (.ref A.f_pairs)
  F_codes : Fun K "codes" "codes" s_codes A.f_codes A.d_codes
  b_codes : Binds K A.d_codes ["shares"] []
  g_codes : mg "codes" = some (.ref A.f_codes)
  F_need_signs : Fun K "need_signs" "need_signs" s_need_signs A.f_need_signs A.d_need_signs
  b_need_signs : Binds K A.d_need_signs ["book", "text"] []
  g_need_signs : mg "need_signs" = some (.ref A.f_need_signs)
  F_Learner_init : Fun K "__init__" "Learner.__init__" s_Learner_init A.f_Learner_init A.d_Learner_init
  b_Learner_init : Binds K A.d_Learner_init ["self", "book"] []
  F_Learner_took : Fun K "took" "Learner.took" s_Learner_took A.f_Learner_took A.d_Learner_took
  b_Learner_took : Binds K A.d_Learner_took ["self", "sign"] []
  F_Learner_copied : Fun K "copied" "Learner.copied" s_Learner_copied A.f_Learner_copied A.d_Learner_copied
  b_Learner_copied : Binds K A.d_Learner_copied ["self"] []
  F_Packer_init : Fun K "__init__" "Packer.__init__" s_Packer_init A.f_Packer_init A.d_Packer_init
  b_Packer_init : Binds K A.d_Packer_init ["self", "book"] []
  F_Packer_put : Fun K "put" "Packer.put" s_Packer_put A.f_Packer_put A.d_Packer_put
  b_Packer_put : Binds K A.d_Packer_put ["self", "part"] []
  F_Unpacker_init : Fun K "__init__" "Unpacker.__init__" s_Unpacker_init A.f_Unpacker_init A.d_Unpacker_init
  b_Unpacker_init : Binds K A.d_Unpacker_init ["self", "book", "many"] []
  F_Unpacker_put : Fun K "put" "Unpacker.put" s_Unpacker_put A.f_Unpacker_put A.d_Unpacker_put
  b_Unpacker_put : Binds K A.d_Unpacker_put ["self", "bits"] []
  F_pack : Fun K "pack" "pack" s_pack A.f_pack A.d_pack
  b_pack : Binds K A.d_pack ["book", "text"] []
  g_pack : mg "pack" = some (.ref A.f_pack)
  F_unpack : Fun K "unpack" "unpack" s_unpack A.f_unpack A.d_unpack
  b_unpack : Binds K A.d_unpack ["book", "bits", "many"] []
  g_unpack : mg "unpack" = some (.ref A.f_unpack)
  F_good_signs : Fun K "good_signs" "good_signs" s_good_signs A.f_good_signs A.d_good_signs
  b_good_signs : Binds K A.d_good_signs ["signs"] []
  g_good_signs : mg "good_signs" = some (.ref A.f_good_signs)
  F_Book_init : Fun K "__init__" "Book.__init__" s_Book_init A.f_Book_init A.d_Book_init
  b_Book_init : Binds K A.d_Book_init ["self", "signs", "size", "cap"] []
  F_report : Fun K "report" "report" s_report A.f_report A.d_report
  b_report : Binds K A.d_report ["book", "text"] []
  g_report : mg "report" = some (.ref A.f_report)
  F_written : Fun K "written" "written" s_written A.f_written A.d_written
  b_written : Binds K A.d_written ["book", "text"] []
  g_written : mg "written" = some (.ref A.f_written)
  F_law_cell_at : Fun K "_law_cell_at" "_law_cell_at" s_law_cell_at A.f_law_cell_at A.d_law_cell_at
  b_law_cell_at : Binds K A.d_law_cell_at ["_law_script", "_law_k"] []
  g_law_cell_at : mg "_law_cell_at" = some (.ref A.f_law_cell_at)
  F_law_many_by : Fun K "_law_many_by" "_law_many_by" s_law_many_by A.f_law_many_by A.d_law_many_by
  b_law_many_by : Binds K A.d_law_many_by ["_law_cell"] []
  g_law_many_by : mg "_law_many_by" = some (.ref A.f_law_many_by)
  F_law_signs_by : Fun K "_law_signs_by" "_law_signs_by" s_law_signs_by A.f_law_signs_by A.d_law_signs_by
  b_law_signs_by : Binds K A.d_law_signs_by ["_law_cell", "_law_many"] []
  g_law_signs_by : mg "_law_signs_by" = some (.ref A.f_law_signs_by)
  F_law_text_by : Fun K "_law_text_by" "_law_text_by" s_law_text_by A.f_law_text_by A.d_law_text_by
  b_law_text_by : Binds K A.d_law_text_by ["_law_script", "_law_first", "_law_signs", "_law_size"] []
  g_law_text_by : mg "_law_text_by" = some (.ref A.f_law_text_by)
  F_law_book_by : Fun K "_law_book_by" "_law_book_by" s_law_book_by A.f_law_book_by A.d_law_book_by
  b_law_book_by : Binds K A.d_law_book_by ["_law_script"] []
  g_law_book_by : mg "_law_book_by" = some (.ref A.f_law_book_by)
  F_law_kinds : Fun K "_law_kinds" "_law_kinds" s_law_kinds A.f_law_kinds A.d_law_kinds
  b_law_kinds : Binds K A.d_law_kinds ["_law_e"] []
  g_law_kinds : mg "_law_kinds" = some (.ref A.f_law_kinds)
  F_law_told : Fun K "_law_told" "_law_told" s_law_told A.f_law_told A.d_law_told
  b_law_told : Binds K A.d_law_told ["_law_call"] []
  g_law_told : mg "_law_told" = some (.ref A.f_law_told)
  F_law_count_drawn : Fun K "_law_count_drawn" "_law_count_drawn" s_law_count_drawn A.f_law_count_drawn A.d_law_count_drawn
  b_law_count_drawn : Binds K A.d_law_count_drawn ["_law_cell", "_law_many"] []
  g_law_count_drawn : mg "_law_count_drawn" = some (.ref A.f_law_count_drawn)
  F_law_count_due : Fun K "_law_count_due" "_law_count_due" s_law_count_due A.f_law_count_due A.d_law_count_due
  b_law_count_due : Binds K A.d_law_count_due ["_law_thing"] []
  g_law_count_due : mg "_law_count_due" = some (.ref A.f_law_count_due)
  F_law_put_in : Fun K "_law_put_in" "_law_put_in" s_law_put_in A.f_law_put_in A.d_law_put_in
  b_law_put_in : Binds K A.d_law_put_in ["_law_row", "_law_at", "_law_sign"] []
  g_law_put_in : mg "_law_put_in" = some (.ref A.f_law_put_in)
  F_law_stands : Fun K "_law_stands" "_law_stands" s_law_stands A.f_law_stands A.d_law_stands
  b_law_stands : Binds K A.d_law_stands ["_law_found"] []
  g_law_stands : mg "_law_stands" = some (.ref A.f_law_stands)
  F_law_goes_on : Fun K "_law_goes_on" "_law_goes_on" s_law_goes_on A.f_law_goes_on A.d_law_goes_on
  b_law_goes_on : Binds K A.d_law_goes_on ["_law_book", "_law_text", "_law_bits", "_law_odd", "_law_at"] []
  cd_law_goes_on : A.d_law_goes_on.code = .ref A.c_law_goes_on
  g_law_goes_on : mg "_law_goes_on" = some (.ref A.f_law_goes_on)
  F_law : Fun K "law" "law" s_law A.f_law A.d_law
  b_law : Binds K A.d_law ["_law_script"] []
  cd_law : A.d_law.code = .ref A.c_law
  g_law : mg "law" = some (.ref A.f_law)
  g_Book : mg "Book" = some (.ref A.C_Book)
  cl_Book : Cls K A.C_Book
  g_Learner : mg "Learner" = some (.ref A.C_Learner)
  cl_Learner : Cls K A.C_Learner
  g_Packer : mg "Packer" = some (.ref A.C_Packer)
  cl_Packer : Cls K A.C_Packer
  g_Unpacker : mg "Unpacker" = some (.ref A.C_Unpacker)
  cl_Unpacker : Cls K A.C_Unpacker
  g_BadBit : mg "BadBit" = some (.ref A.C_BadBit)
  x_BadBit : XcQ K A.C_BadBit
  g_BadBook : mg "BadBook" = some (.ref A.C_BadBook)
  x_BadBook : XcQ K A.C_BadBook
  g_BadCount : mg "BadCount" = some (.ref A.C_BadCount)
  x_BadCount : XcQ K A.C_BadCount
  g_BadLine : mg "BadLine" = some (.ref A.C_BadLine)
  x_BadLine : XcQ K A.C_BadLine
  g_BadShares : mg "BadShares" = some (.ref A.C_BadShares)
  x_BadShares : XcQ K A.C_BadShares
  g_BadSign : mg "BadSign" = some (.ref A.C_BadSign)
  x_BadSign : XcQ K A.C_BadSign
  g_Loose : mg "Loose" = some (.ref A.C_Loose)
  x_Loose : XcQ K A.C_Loose
  g_PackError : mg "PackError" = some (.ref A.C_PackError)
  x_PackError : XcQ K A.C_PackError
  g_Short : mg "Short" = some (.ref A.C_Short)
  x_Short : XcQ K A.C_Short
  s_BadBit_BadBit : PySem.W.subIn K (.ref A.C_BadBit) (.ref A.C_BadBit) = some true
  s_BadBit_BadBook : PySem.W.subIn K (.ref A.C_BadBit) (.ref A.C_BadBook) = some false
  s_BadBit_BadCount : PySem.W.subIn K (.ref A.C_BadBit) (.ref A.C_BadCount) = some false
  s_BadBit_BadLine : PySem.W.subIn K (.ref A.C_BadBit) (.ref A.C_BadLine) = some false
  s_BadBit_BadShares : PySem.W.subIn K (.ref A.C_BadBit) (.ref A.C_BadShares) = some false
  s_BadBit_BadSign : PySem.W.subIn K (.ref A.C_BadBit) (.ref A.C_BadSign) = some false
  s_BadBit_Loose : PySem.W.subIn K (.ref A.C_BadBit) (.ref A.C_Loose) = some false
  s_BadBit_PackError : PySem.W.subIn K (.ref A.C_BadBit) (.ref A.C_PackError) = some true
  s_BadBit_Short : PySem.W.subIn K (.ref A.C_BadBit) (.ref A.C_Short) = some false
  s_BadCount_BadBit : PySem.W.subIn K (.ref A.C_BadCount) (.ref A.C_BadBit) = some false
  s_BadCount_BadBook : PySem.W.subIn K (.ref A.C_BadCount) (.ref A.C_BadBook) = some false
  s_BadCount_BadCount : PySem.W.subIn K (.ref A.C_BadCount) (.ref A.C_BadCount) = some true
  s_BadCount_BadLine : PySem.W.subIn K (.ref A.C_BadCount) (.ref A.C_BadLine) = some false
  s_BadCount_BadShares : PySem.W.subIn K (.ref A.C_BadCount) (.ref A.C_BadShares) = some false
  s_BadCount_BadSign : PySem.W.subIn K (.ref A.C_BadCount) (.ref A.C_BadSign) = some false
  s_BadCount_Loose : PySem.W.subIn K (.ref A.C_BadCount) (.ref A.C_Loose) = some false
  s_BadCount_PackError : PySem.W.subIn K (.ref A.C_BadCount) (.ref A.C_PackError) = some true
  s_BadCount_Short : PySem.W.subIn K (.ref A.C_BadCount) (.ref A.C_Short) = some false
  s_BadSign_BadBit : PySem.W.subIn K (.ref A.C_BadSign) (.ref A.C_BadBit) = some false
  s_BadSign_BadBook : PySem.W.subIn K (.ref A.C_BadSign) (.ref A.C_BadBook) = some false
  s_BadSign_BadCount : PySem.W.subIn K (.ref A.C_BadSign) (.ref A.C_BadCount) = some false
  s_BadSign_BadLine : PySem.W.subIn K (.ref A.C_BadSign) (.ref A.C_BadLine) = some false
  s_BadSign_BadShares : PySem.W.subIn K (.ref A.C_BadSign) (.ref A.C_BadShares) = some false
  s_BadSign_BadSign : PySem.W.subIn K (.ref A.C_BadSign) (.ref A.C_BadSign) = some true
  s_BadSign_Loose : PySem.W.subIn K (.ref A.C_BadSign) (.ref A.C_Loose) = some false
  s_BadSign_PackError : PySem.W.subIn K (.ref A.C_BadSign) (.ref A.C_PackError) = some true
  s_BadSign_Short : PySem.W.subIn K (.ref A.C_BadSign) (.ref A.C_Short) = some false
  s_Loose_BadBit : PySem.W.subIn K (.ref A.C_Loose) (.ref A.C_BadBit) = some false
  s_Loose_BadBook : PySem.W.subIn K (.ref A.C_Loose) (.ref A.C_BadBook) = some false
  s_Loose_BadCount : PySem.W.subIn K (.ref A.C_Loose) (.ref A.C_BadCount) = some false
  s_Loose_BadLine : PySem.W.subIn K (.ref A.C_Loose) (.ref A.C_BadLine) = some false
  s_Loose_BadShares : PySem.W.subIn K (.ref A.C_Loose) (.ref A.C_BadShares) = some false
  s_Loose_BadSign : PySem.W.subIn K (.ref A.C_Loose) (.ref A.C_BadSign) = some false
  s_Loose_Loose : PySem.W.subIn K (.ref A.C_Loose) (.ref A.C_Loose) = some true
  s_Loose_PackError : PySem.W.subIn K (.ref A.C_Loose) (.ref A.C_PackError) = some true
  s_Loose_Short : PySem.W.subIn K (.ref A.C_Loose) (.ref A.C_Short) = some false
  s_Short_BadBit : PySem.W.subIn K (.ref A.C_Short) (.ref A.C_BadBit) = some false
  s_Short_BadBook : PySem.W.subIn K (.ref A.C_Short) (.ref A.C_BadBook) = some false
  s_Short_BadCount : PySem.W.subIn K (.ref A.C_Short) (.ref A.C_BadCount) = some false
  s_Short_BadLine : PySem.W.subIn K (.ref A.C_Short) (.ref A.C_BadLine) = some false
  s_Short_BadShares : PySem.W.subIn K (.ref A.C_Short) (.ref A.C_BadShares) = some false
  s_Short_BadSign : PySem.W.subIn K (.ref A.C_Short) (.ref A.C_BadSign) = some false
  s_Short_Loose : PySem.W.subIn K (.ref A.C_Short) (.ref A.C_Loose) = some false
  s_Short_PackError : PySem.W.subIn K (.ref A.C_Short) (.ref A.C_PackError) = some true
  s_Short_Short : PySem.W.subIn K (.ref A.C_Short) (.ref A.C_Short) = some true
  na_Book_cap : NoAttr K A.C_Book "cap"
  na_Book_signs : NoAttr K A.C_Book "signs"
  na_Book_size : NoAttr K A.C_Book "size"
  na_Learner_book : NoAttr K A.C_Learner "book"
  na_Learner_shares : NoAttr K A.C_Learner "shares"
  na_Learner_waits : NoAttr K A.C_Learner "waits"
  na_Learner_words : NoAttr K A.C_Learner "words"
  na_Packer_book : NoAttr K A.C_Packer "book"
  na_Packer_learner : NoAttr K A.C_Packer "learner"
  na_Unpacker_book : NoAttr K A.C_Unpacker "book"
  na_Unpacker_learner : NoAttr K A.C_Unpacker "learner"
  na_Unpacker_left : NoAttr K A.C_Unpacker "left"
  na_Unpacker_rest : NoAttr K A.C_Unpacker "rest"
  m_Learner_copied : Meth K A.C_Learner "copied" A.f_Learner_copied
  m_Learner_took : Meth K A.C_Learner "took" A.f_Learner_took
  m_Packer_put : Meth K A.C_Packer "put" A.f_Packer_put
  m_Unpacker_put : Meth K A.C_Unpacker "put" A.f_Unpacker_put
  mk_Book : Mk K A.C_Book A.f_Book_init
  mk_Learner : Mk K A.C_Learner A.f_Learner_init
  mk_Packer : Mk K A.C_Packer A.f_Packer_init
  mk_Unpacker : Mk K A.C_Unpacker A.f_Unpacker_init
  n_ValueError : mg "ValueError" = none
  n_bool : mg "bool" = none
  n_enumerate : mg "enumerate" = none
  n_int : mg "int" = none
  n_isinstance : mg "isinstance" = none
  n_len : mg "len" = none
  n_list : mg "list" = none
  n_max : mg "max" = none
  n_ord : mg "ord" = none
  n_range : mg "range" = none
  n_reversed : mg "reversed" = none
  n_sorted : mg "sorted" = none
  n_str : mg "str" = none
  n_sum : mg "sum" = none
  n_zip : mg "zip" = none
  c_MOST_CAP : mg "MOST_CAP" = some (.int 1000000 A.t_MOST_CAP)
  c_MOST_SHARE : mg "MOST_SHARE" = some (.int 1000000000000 A.t_MOST_SHARE)
  c_MOST_SIGNS : mg "MOST_SIGNS" = some (.int 40 A.t_MOST_SIGNS)
  c_MOST_SIZE : mg "MOST_SIZE" = some (.int 99 A.t_MOST_SIZE)
  c_MOST_TEXT : mg "MOST_TEXT" = some (.int 2000 A.t_MOST_TEXT)
  nP : A.P_law_goes_on ≠ A.P_law
def Tall (A : Adr) : List (Addr × Str) := [(A.P_law_goes_on, ((("_law_goes_on" : Str) ++ ".<locals>.") ++ "<lambda>" : Str)), (A.P_law, ((("law" : Str) ++ ".<locals>.") ++ "<lambda>" : Str))]
theorem hm_law_goes_on (A : Adr) : (A.P_law_goes_on, ((("_law_goes_on" : Str) ++ ".<locals>.") ++ "<lambda>" : Str)) ∈ Tall A := List.mem_cons_self
theorem hu_law_goes_on {K : PySem.W.Frag} {mg : Str → Option Value} {A : Adr} (T : Txt K mg A) : ∀ p ∈ Tall A, p.1 = A.P_law_goes_on → p.2 = ((("_law_goes_on" : Str) ++ ".<locals>.") ++ "<lambda>" : Str) := fun p hp e => by
  rcases List.mem_cons.mp hp with rfl | hp
  · exact rfl
  · obtain rfl := List.mem_singleton.mp hp
    exact (T.nP e.symm).elim
theorem hm_law (A : Adr) : (A.P_law, ((("law" : Str) ++ ".<locals>.") ++ "<lambda>" : Str)) ∈ Tall A := List.mem_cons_of_mem _ List.mem_cons_self
theorem hu_law {K : PySem.W.Frag} {mg : Str → Option Value} {A : Adr} (T : Txt K mg A) : ∀ p ∈ Tall A, p.1 = A.P_law → p.2 = ((("law" : Str) ++ ".<locals>.") ++ "<lambda>" : Str) := fun p hp e => by
  rcases List.mem_cons.mp hp with rfl | hp
  · exact (T.nP e).elim
  · obtain rfl := List.mem_singleton.mp hp
    exact rfl
theorem tabs0 {H : Hp} {A : Adr} (h0 : H A.P_law_goes_on = some (.tbl #[])) (h1 : H A.P_law = some (.tbl #[])) : LamX.Tabs (Tall A) H := fun p hp => by
  rcases List.mem_cons.mp hp with rfl | hp
  · exact LamX.TabS.nil h0
  · obtain rfl := List.mem_singleton.mp hp
    exact LamX.TabS.nil h1
theorem sc_whole : FnScope ["found", "least", "most"] ["found", "least", "most"] (defScope s_whole) := ⟨rfl, rfl, rfl, by decide +kernel, rfl, by decide +kernel, by decide +kernel⟩
section
variable {P : Program} {w : World} {K : PySem.W.Frag} {mg : Str → Option Value} {base : Heap} {A : Adr}
def sp_whole : L2.Sp := fun vs H Q _ => ∃ (x : V) (lo hi : Int), vs = [x, .int lo, .int hi] ∧ Kd H x ∧ Q (.bl (wholeV x lo hi)) H
theorem u_whole {H : Hp} {Q : VK} {E : XK} {x : V} {lo hi : Int} (h : Kd H x) (q : Q (.bl (wholeV x lo hi)) H) : sp_whole [x, .int lo, .int hi] H Q E := ⟨x, lo, hi, rfl, h, q⟩
theorem u_wholeI {H : Hp} {Q : VK} {E : XK} {i lo hi : Int} (q : Q (.bl (decide (lo ≤ i) && decide (i ≤ hi))) H) : sp_whole [.int i, .int lo, .int hi] H Q E := ⟨.int i, lo, hi, rfl, trivial, q⟩
theorem ok_whole (T : Txt K mg A) : FnOk P w K mg base CX0 1 A.f_whole A.d_whole ["found", "least", "most"] (sp_whole) := by
  refine T.F_whole.ok sc_whole (fun vs H Q E h => by first | (obtain ⟨rfl, _⟩ := h; rfl) | (obtain ⟨_, rfl, _⟩ := h; rfl) | (obtain ⟨_, _, rfl, _⟩ := h; rfl) | (obtain ⟨_, _, _, rfl, _⟩ := h; rfl) | (obtain ⟨_, _, _, _, rfl, _⟩ := h; rfl) | (obtain ⟨_, _, _, _, _, rfl, _⟩ := h; rfl) | (obtain ⟨_, _, _, _, _, _, rfl, _⟩ := h; rfl) | (obtain ⟨_, _, _, _, _, _, _, rfl, _⟩ := h; rfl) | (obtain ⟨_, _, _, _, _, _, _, _, rfl, _⟩ := h; rfl) | (obtain ⟨_, _, _, _, _, _, _, _, _, rfl, _⟩ := h; rfl) | (obtain ⟨_, _, _, _, _, _, _, _, _, _, rfl, _⟩ := h; rfl) | (obtain ⟨_, _, _, _, _, _, _, _, _, _, _, rfl, _⟩ := h; rfl) | (obtain ⟨_, _, _, _, _, _, _, _, _, _, _, _, rfl, _⟩ := h; rfl) | (obtain ⟨_, _, _, _, _, _, _, _, _, _, _, _, _, rfl, _⟩ := h; rfl) | (obtain ⟨_, _, _, _, _, _, _, _, _, _, _, _, _, _, rfl, _⟩ := h; rfl) | (obtain ⟨_, _, _, _, _, _, _, _, _, _, _, _, _, _, _, rfl, _⟩ := h; rfl) | (obtain ⟨_, _, _, _, _, _, _, _, _, _, _, _, _, _, _, _, rfl, _⟩ := h; rfl) | (obtain ⟨_, _, _, _, _, _, _, _, _, _, _, _, _, _, _, _, _, rfl, _⟩ := h; rfl) | (obtain ⟨_, _, _, _, _, _, _, _, _, _, _, _, _, _, _, _, _, _, rfl, _⟩ := h; rfl) | (obtain ⟨_, _, _, _, _, _, _, _, _, _, _, _, _, _, _, _, _, _, _, rfl, _⟩ := h; rfl) | (obtain ⟨_, _, _, _, _, _, _, _, _, _, _, _, _, _, _, _, _, _, _, _, rfl, _⟩ := h; rfl) | (obtain ⟨_, _, _, _, _, _, _, _, _, _, _, _, _, _, _, _, _, _, _, _, _, rfl, _⟩ := h; rfl)) (fun cdv Ar outer s H vs Q E hr h => ?_)
  obtain ⟨x, lo, hi, rfl, hx, q⟩ := h
  refine ⟨_, (pss_one (ps_ret (pe_and (pe_callB (call_isiK0 (K := K)) (by rfl) T.n_isinstance (by decide +kernel) (pa_cons (pv 0) (pa_cons (pe_bltn (v := .ty "int") (by rfl) T.n_int (by decide +kernel) rfl) pa_nil))) (pe_and (pe_not (pe_callB (call_isiK0 (K := K)) (by rfl) T.n_isinstance (by decide +kernel) (pa_cons (pv 0) (pa_cons (pe_bltn (v := .ty "bool") (by rfl) T.n_bool (by decide +kernel) rfl) pa_nil)))) (pe_one (pe_chain op_le op_le (pv 1) (pv 0) (pv 2))))))), ?_⟩
  refine w_start (σ' := [some _, some _, some _]) rfl ?_
  try dsimp only [cxOf, Cx.nox, Cx.wish]
  cases x with
  | int i =>
    walk_at "ss"
    simp only [wholeV] at q
    refine w_ite (p := lo ≤ i) (fun h => ?_) (fun h => ?_)
    · walk_at "ss"
      rw [decide_eq_true h] at q
      exact q
    · rw [decide_eq_false h] at q
      exact q
  | bl b =>
    walk_at "ss"
    exact q
  | non =>
    walk_at "ss"
    exact q
  | str z =>
    walk_at "ss"
    exact q
  | ref a =>
    rcases hx with ⟨xs, hx⟩ | ⟨xs, hx⟩
    · walk_at "ss"
      exact q
    · walk_at "ss"
      exact q
  | _ => exact hx.elim
end
theorem sc_whole_row : FnScope ["row", "least", "one"] ["row", "least"] (defScope s_whole_row) := ⟨rfl, rfl, rfl, by decide +kernel, rfl, by decide +kernel, by decide +kernel⟩
section
variable {P : Program} {w : World} {K : PySem.W.Frag} {mg : Str → Option Value} {base : Heap} {A : Adr}
def sp_whole_row : L2.Sp := fun vs H Q _ => ∃ (a : Addr) (xs : List V) (least : Int), vs = [.ref a, .int least] ∧ H a = some (.lst xs) ∧ (∀ y ∈ xs, Kd H y) ∧ Q (.bl (rowOk xs least)) H
theorem u_whole_row {H : Hp} {Q : VK} {E : XK} {a : Addr} {xs : List V} {least : Int} (h : H a = some (.lst xs)) (hk : ∀ y ∈ xs, Kd H y) (q : Q (.bl (rowOk xs least)) H) : sp_whole_row [.ref a, .int least] H Q E := ⟨a, xs, least, rfl, h, hk, q⟩
theorem ok_whole_row (T : Txt K mg A) : FnOk P w K mg base CX0 2 A.f_whole_row A.d_whole_row ["row", "least"] (sp_whole_row) := by
  have G_whole := ok_whole (P := P) (w := w) (base := base) T
  refine T.F_whole_row.ok sc_whole_row (fun vs H Q E h => by first | (obtain ⟨rfl, _⟩ := h; rfl) | (obtain ⟨_, rfl, _⟩ := h; rfl) | (obtain ⟨_, _, rfl, _⟩ := h; rfl) | (obtain ⟨_, _, _, rfl, _⟩ := h; rfl) | (obtain ⟨_, _, _, _, rfl, _⟩ := h; rfl) | (obtain ⟨_, _, _, _, _, rfl, _⟩ := h; rfl) | (obtain ⟨_, _, _, _, _, _, rfl, _⟩ := h; rfl) | (obtain ⟨_, _, _, _, _, _, _, rfl, _⟩ := h; rfl) | (obtain ⟨_, _, _, _, _, _, _, _, rfl, _⟩ := h; rfl) | (obtain ⟨_, _, _, _, _, _, _, _, _, rfl, _⟩ := h; rfl) | (obtain ⟨_, _, _, _, _, _, _, _, _, _, rfl, _⟩ := h; rfl) | (obtain ⟨_, _, _, _, _, _, _, _, _, _, _, rfl, _⟩ := h; rfl) | (obtain ⟨_, _, _, _, _, _, _, _, _, _, _, _, rfl, _⟩ := h; rfl) | (obtain ⟨_, _, _, _, _, _, _, _, _, _, _, _, _, rfl, _⟩ := h; rfl) | (obtain ⟨_, _, _, _, _, _, _, _, _, _, _, _, _, _, rfl, _⟩ := h; rfl) | (obtain ⟨_, _, _, _, _, _, _, _, _, _, _, _, _, _, _, rfl, _⟩ := h; rfl) | (obtain ⟨_, _, _, _, _, _, _, _, _, _, _, _, _, _, _, _, rfl, _⟩ := h; rfl) | (obtain ⟨_, _, _, _, _, _, _, _, _, _, _, _, _, _, _, _, _, rfl, _⟩ := h; rfl) | (obtain ⟨_, _, _, _, _, _, _, _, _, _, _, _, _, _, _, _, _, _, rfl, _⟩ := h; rfl) | (obtain ⟨_, _, _, _, _, _, _, _, _, _, _, _, _, _, _, _, _, _, _, rfl, _⟩ := h; rfl) | (obtain ⟨_, _, _, _, _, _, _, _, _, _, _, _, _, _, _, _, _, _, _, _, rfl, _⟩ := h; rfl) | (obtain ⟨_, _, _, _, _, _, _, _, _, _, _, _, _, _, _, _, _, _, _, _, _, rfl, _⟩ := h; rfl)) (fun cdv Ar outer s H vs Q E hr h => ?_)
  obtain ⟨a, xs, least, rfl, ha, hk, q⟩ := h
  have hr_whole := hr.mono (by decide : 1 ≤ 1)
  refine ⟨_, (pss_cons (ps_if (pt_not (pt_val (pe_callB (call_isiK0 (K := K)) (by rfl) T.n_isinstance (by decide +kernel) (pa_cons (pv 0) (pa_cons (pe_bltn (v := .ty "list") (by rfl) T.n_list (by decide +kernel) rfl) pa_nil))))) (pss_one (ps_ret pe_bl))
      pss_nil)
      (pss_cons (ps_for PassesOwn.never rfl (pi_listK (K := K) (pv 0)) (pg_name (i := 2) sc_whole_row.nd rfl (Or.inl rfl))
      (pss_one (ps_if (pt_not (pt_val (pe_call G_whole hr_whole rfl T.g_whole T.F_whole.kp T.b_whole .nil pass0 (pa_cons (pv 2) (pa_cons (pv 1) (pa_cons (pe_glob (v := .int 1000000000000) rfl T.c_MOST_SHARE ⟨_, rfl⟩) pa_nil)))))) (pss_one (ps_ret pe_bl))
      pss_nil)))
      (pss_one (ps_ret pe_bl)))), ?_⟩
  refine w_start (σ' := [some _, some _, none]) rfl ?_
  try dsimp only [cxOf, Cx.nox, Cx.wish]
  walk_at "ss"
  refine for_it (walk_list (xs := xs)) (fun i σ' H' => H' = H ∧ (∃ v, σ' = [some (.ref a), some (.int least), v]) ∧ rowOk (xs.take i) least = true) ⟨rfl, ⟨_, rfl⟩, rfl⟩ (fun i σ' H' _ p => by rw [p.1]; exact SqL.of ha) (fun i x σ' H' H2 hi p y => ?_) (fun σ' H' p => ?_)
  · obtain ⟨rfl, ⟨v, rfl⟩, hall⟩ := p
    obtain ⟨rfl, hx⟩ := y
    walk_at "ss"
    refine u_whole (hk x (List.mem_of_getElem? hx)) ?_
    walk_at "ss"
    refine w_iteB (fun h => ?_) (fun h => ?_)
    · walk_at "ss"
      have e : rowOk xs least = false := by
        rw [Bool.not_eq_true'] at h
        unfold rowOk
        rw [List.all_eq_false]
        exact ⟨x, List.mem_of_getElem? hx, by rw [h]; exact Bool.false_ne_true⟩
      rw [e] at q
      exact q
    · walk_at "ss"
      refine ⟨rfl, ⟨_, rfl⟩, ?_⟩
      rw [Bool.not_eq_false'] at h
      unfold rowOk at hall ⊢
      rw [take_succ hx, List.all_append, hall, List.all_cons, h] <;> rfl
  · obtain ⟨rfl, ⟨v, rfl⟩, hall⟩ := p
    rw [List.take_length] at hall
    rw [hall] at q
    walk_at "ss"
    exact q
end
theorem sc_need_shares : FnScope ["shares"] ["shares"] (defScope s_need_shares) := ⟨rfl, rfl, rfl, by decide +kernel, rfl, by decide +kernel, by decide +kernel⟩
section
variable {P : Program} {w : World} {K : PySem.W.Frag} {mg : Str → Option Value} {base : Heap} {A : Adr}
/-- shares that are as they should be are not refused -/
def sp_need_shares : L2.Sp := fun vs H Q _ => ∃ (a : Addr) (ns : List Int), vs = [.ref a] ∧ H a = some (.lst (ns.map V.int)) ∧ Good ns ∧ Q .non H
theorem u_need_shares {H : Hp} {Q : VK} {E : XK} {a : Addr} {ns : List Int} (h : H a = some (.lst (ns.map V.int))) (g : Good ns) (q : Q .non H) : sp_need_shares [.ref a] H Q E := ⟨a, ns, rfl, h, g, q⟩
theorem ok_need_shares (T : Txt K mg A) : FnOk P w K mg base CX0 3 A.f_need_shares A.d_need_shares ["shares"] (sp_need_shares) := by
  have G_whole_row := ok_whole_row (P := P) (w := w) (base := base) T
  refine T.F_need_shares.ok sc_need_shares (fun vs H Q E h => by first | (obtain ⟨rfl, _⟩ := h; rfl) | (obtain ⟨_, rfl, _⟩ := h; rfl) | (obtain ⟨_, _, rfl, _⟩ := h; rfl) | (obtain ⟨_, _, _, rfl, _⟩ := h; rfl) | (obtain ⟨_, _, _, _, rfl, _⟩ := h; rfl) | (obtain ⟨_, _, _, _, _, rfl, _⟩ := h; rfl) | (obtain ⟨_, _, _, _, _, _, rfl, _⟩ := h; rfl) | (obtain ⟨_, _, _, _, _, _, _, rfl, _⟩ := h; rfl) | (obtain ⟨_, _, _, _, _, _, _, _, rfl, _⟩ := h; rfl) | (obtain ⟨_, _, _, _, _, _, _, _, _, rfl, _⟩ := h; rfl) | (obtain ⟨_, _, _, _, _, _, _, _, _, _, rfl, _⟩ := h; rfl) | (obtain ⟨_, _, _, _, _, _, _, _, _, _, _, rfl, _⟩ := h; rfl) | (obtain ⟨_, _, _, _, _, _, _, _, _, _, _, _, rfl, _⟩ := h; rfl) | (obtain ⟨_, _, _, _, _, _, _, _, _, _, _, _, _, rfl, _⟩ := h; rfl) | (obtain ⟨_, _, _, _, _, _, _, _, _, _, _, _, _, _, rfl, _⟩ := h; rfl) | (obtain ⟨_, _, _, _, _, _, _, _, _, _, _, _, _, _, _, rfl, _⟩ := h; rfl) | (obtain ⟨_, _, _, _, _, _, _, _, _, _, _, _, _, _, _, _, rfl, _⟩ := h; rfl) | (obtain ⟨_, _, _, _, _, _, _, _, _, _, _, _, _, _, _, _, _, rfl, _⟩ := h; rfl) | (obtain ⟨_, _, _, _, _, _, _, _, _, _, _, _, _, _, _, _, _, _, rfl, _⟩ := h; rfl) | (obtain ⟨_, _, _, _, _, _, _, _, _, _, _, _, _, _, _, _, _, _, _, rfl, _⟩ := h; rfl) | (obtain ⟨_, _, _, _, _, _, _, _, _, _, _, _, _, _, _, _, _, _, _, _, rfl, _⟩ := h; rfl) | (obtain ⟨_, _, _, _, _, _, _, _, _, _, _, _, _, _, _, _, _, _, _, _, _, rfl, _⟩ := h; rfl)) (fun cdv Ar outer s H vs Q E hr h => ?_)
  obtain ⟨a, ns, rfl, ha, g, q⟩ := h
  have hr_whole_row := hr.mono (by decide : 2 ≤ 2)
  refine ⟨_, (pss_one (ps_if (PW.pt (pw_or (pt_not (pt_val (pe_call G_whole_row hr_whole_row rfl T.g_whole_row T.F_whole_row.kp T.b_whole_row .nil pass0 (pa_cons (pv 0) (pa_cons pe_int pa_nil))))) (pw_or1 (pt_not (pt_chain op_le op_le pe_int (pe_callB (call_lenK (K := K)) (by rfl) T.n_len PySem.boot_len (pa_cons (pv 0) pa_nil)) (pe_glob (v := .int 40) rfl T.c_MOST_SIGNS ⟨_, rfl⟩)))))) (pss_one ps_never)
      pss_nil)), ?_⟩
  refine w_start (σ' := [some _]) rfl ?_
  try dsimp only [cxOf, Cx.nox, Cx.wish]
  walk_at "ss"
  refine u_whole_row ha (fun y hy => by obtain ⟨n, _, rfl⟩ := List.mem_map.mp hy; exact trivial) ?_
  rw [rowOk_ints g.each]
  walk_at "ss"
  rw [List.length_map]
  have h1 := g.pos
  have h2 := g.few
  refine w_ite (fun h => ?_) (fun h => (h (by omega)).elim)
  walk_at "ss"
  refine w_iteKF (by rw [decide_eq_true (by omega)]; rfl) ?_
  walk_at "ss"
  exact q
end
theorem sc_counted : FnScope ["signs", "block", "sign"] ["signs", "block"] (defScope s_counted) := ⟨rfl, rfl, rfl, by decide +kernel, rfl, by decide +kernel, by decide +kernel⟩
section
variable {P : Program} {w : World} {K : PySem.W.Frag} {mg : Str → Option Value} {base : Heap} {A : Adr}
def sp_counted : L2.Sp := fun vs H Q _ => ∃ (g b : List Nat), vs = [.str (S g), .str (S b)] ∧ g.length ≤ 1000 ∧ ∀ p H', Same H H' → H p = none → H' p = some (.lst ((countsL g b).map V.int)) → Q (.ref p) H'
theorem u_counted {H : Hp} {Q : VK} {E : XK} {g b : List Nat} (h : g.length ≤ 1000) (q : ∀ p H', Same H H' → H p = none → H' p = some (.lst ((countsL g b).map V.int)) → Q (.ref p) H') : sp_counted [.str (S g), .str (S b)] H Q E := ⟨g, b, rfl, h, q⟩
theorem ok_counted (T : Txt K mg A) : FnOk P w K mg base CX0 1 A.f_counted A.d_counted ["signs", "block"] (sp_counted) := by
  refine T.F_counted.ok sc_counted (fun vs H Q E h => by first | (obtain ⟨rfl, _⟩ := h; rfl) | (obtain ⟨_, rfl, _⟩ := h; rfl) | (obtain ⟨_, _, rfl, _⟩ := h; rfl) | (obtain ⟨_, _, _, rfl, _⟩ := h; rfl) | (obtain ⟨_, _, _, _, rfl, _⟩ := h; rfl) | (obtain ⟨_, _, _, _, _, rfl, _⟩ := h; rfl) | (obtain ⟨_, _, _, _, _, _, rfl, _⟩ := h; rfl) | (obtain ⟨_, _, _, _, _, _, _, rfl, _⟩ := h; rfl) | (obtain ⟨_, _, _, _, _, _, _, _, rfl, _⟩ := h; rfl) | (obtain ⟨_, _, _, _, _, _, _, _, _, rfl, _⟩ := h; rfl) | (obtain ⟨_, _, _, _, _, _, _, _, _, _, rfl, _⟩ := h; rfl) | (obtain ⟨_, _, _, _, _, _, _, _, _, _, _, rfl, _⟩ := h; rfl) | (obtain ⟨_, _, _, _, _, _, _, _, _, _, _, _, rfl, _⟩ := h; rfl) | (obtain ⟨_, _, _, _, _, _, _, _, _, _, _, _, _, rfl, _⟩ := h; rfl) | (obtain ⟨_, _, _, _, _, _, _, _, _, _, _, _, _, _, rfl, _⟩ := h; rfl) | (obtain ⟨_, _, _, _, _, _, _, _, _, _, _, _, _, _, _, rfl, _⟩ := h; rfl) | (obtain ⟨_, _, _, _, _, _, _, _, _, _, _, _, _, _, _, _, rfl, _⟩ := h; rfl) | (obtain ⟨_, _, _, _, _, _, _, _, _, _, _, _, _, _, _, _, _, rfl, _⟩ := h; rfl) | (obtain ⟨_, _, _, _, _, _, _, _, _, _, _, _, _, _, _, _, _, _, rfl, _⟩ := h; rfl) | (obtain ⟨_, _, _, _, _, _, _, _, _, _, _, _, _, _, _, _, _, _, _, rfl, _⟩ := h; rfl) | (obtain ⟨_, _, _, _, _, _, _, _, _, _, _, _, _, _, _, _, _, _, _, _, rfl, _⟩ := h; rfl) | (obtain ⟨_, _, _, _, _, _, _, _, _, _, _, _, _, _, _, _, _, _, _, _, _, rfl, _⟩ := h; rfl)) (fun cdv Ar outer s H vs Q E hr h => ?_)
  obtain ⟨g, b, rfl, hg, q⟩ := h
  refine ⟨_, (pss_one (ps_ret (pe_lc (own := [("sign", 2)]) (g := gName 2) rfl sc_counted.nd (pi_str (pv 0)) (blkOk_by (own := [("sign", 2)]) (N := ["signs", "block", "sign"]) (sc := defScope s_counted) (by decide +kernel)) (fun _ _ _ _ _ => (pg_name (i := 2) sc_counted.nd rfl (Or.inl rfl))) (fun _ _ _ _ _ => pts_nil) (fun _ _ _ _ _ => (pe_bmK (K := K) PySem.F.plainAttrs_str PySem.F.slot_str_count PySem.F.type_str_count mt_count (pv 1) (pa_cons (pv 2) pa_nil)))))), ?_⟩
  refine w_start (σ' := [some _, some _, none]) rfl ?_
  try dsimp only [cxOf, Cx.nox, Cx.wish]
  walk_at "ss"
  refine lc_pure walk_S ((countsL g b).map V.int) (by simp [countsL]) (Nat.le_trans hg (by decide)) (fun _ _ => trivial) (fun i x y H1 H2 R hi hy s1 hx k => ?_) (fun p H' s hp h => q p H' s hp h)
  obtain ⟨rfl, c, hc, rfl⟩ := hx
  obtain ⟨n, hn, rfl⟩ := map_int hy
  unfold countsL at hn
  rw [List.getElem?_map, hc] at hn
  cases (Option.some.inj hn)
  walk_at "ss"
  refine ⟨rfl, ?_⟩
  walk_at "ss"
  rw [count_X]
  exact k _ (Same.refl _)
end
theorem sc_halved : FnScope ["shares", "share"] ["shares"] (defScope s_halved) := ⟨rfl, rfl, rfl, by decide +kernel, rfl, by decide +kernel, by decide +kernel⟩
section
variable {P : Program} {w : World} {K : PySem.W.Frag} {mg : Str → Option Value} {base : Heap} {A : Adr}
def sp_halved (K : PySem.W.Frag) : L2.Sp := fun vs H Q _ => ∃ (a : Addr) (ns : List Int), vs = [.ref a] ∧ SqL K H a (ns.map V.int) ∧ ns.length ≤ sizeLine ∧ ∀ p H', Same H H' → H p = none → H' p = some (.lst ((halvedL ns).map V.int)) → Q (.ref p) H'
theorem u_halved {H : Hp} {Q : VK} {E : XK} {a : Addr} {ns : List Int} (h : SqL K H a (ns.map V.int)) (hz : ns.length ≤ sizeLine) (q : ∀ p H', Same H H' → H p = none → H' p = some (.lst ((halvedL ns).map V.int)) → Q (.ref p) H') : sp_halved K [.ref a] H Q E := ⟨a, ns, rfl, h, hz, q⟩
theorem ok_halved (T : Txt K mg A) : FnOk P w K mg base CX0 1 A.f_halved A.d_halved ["shares"] (sp_halved K) := by
  refine T.F_halved.ok sc_halved (fun vs H Q E h => by first | (obtain ⟨rfl, _⟩ := h; rfl) | (obtain ⟨_, rfl, _⟩ := h; rfl) | (obtain ⟨_, _, rfl, _⟩ := h; rfl) | (obtain ⟨_, _, _, rfl, _⟩ := h; rfl) | (obtain ⟨_, _, _, _, rfl, _⟩ := h; rfl) | (obtain ⟨_, _, _, _, _, rfl, _⟩ := h; rfl) | (obtain ⟨_, _, _, _, _, _, rfl, _⟩ := h; rfl) | (obtain ⟨_, _, _, _, _, _, _, rfl, _⟩ := h; rfl) | (obtain ⟨_, _, _, _, _, _, _, _, rfl, _⟩ := h; rfl) | (obtain ⟨_, _, _, _, _, _, _, _, _, rfl, _⟩ := h; rfl) | (obtain ⟨_, _, _, _, _, _, _, _, _, _, rfl, _⟩ := h; rfl) | (obtain ⟨_, _, _, _, _, _, _, _, _, _, _, rfl, _⟩ := h; rfl) | (obtain ⟨_, _, _, _, _, _, _, _, _, _, _, _, rfl, _⟩ := h; rfl) | (obtain ⟨_, _, _, _, _, _, _, _, _, _, _, _, _, rfl, _⟩ := h; rfl) | (obtain ⟨_, _, _, _, _, _, _, _, _, _, _, _, _, _, rfl, _⟩ := h; rfl) | (obtain ⟨_, _, _, _, _, _, _, _, _, _, _, _, _, _, _, rfl, _⟩ := h; rfl) | (obtain ⟨_, _, _, _, _, _, _, _, _, _, _, _, _, _, _, _, rfl, _⟩ := h; rfl) | (obtain ⟨_, _, _, _, _, _, _, _, _, _, _, _, _, _, _, _, _, rfl, _⟩ := h; rfl) | (obtain ⟨_, _, _, _, _, _, _, _, _, _, _, _, _, _, _, _, _, _, rfl, _⟩ := h; rfl) | (obtain ⟨_, _, _, _, _, _, _, _, _, _, _, _, _, _, _, _, _, _, _, rfl, _⟩ := h; rfl) | (obtain ⟨_, _, _, _, _, _, _, _, _, _, _, _, _, _, _, _, _, _, _, _, rfl, _⟩ := h; rfl) | (obtain ⟨_, _, _, _, _, _, _, _, _, _, _, _, _, _, _, _, _, _, _, _, _, rfl, _⟩ := h; rfl)) (fun cdv Ar outer s H vs Q E hr h => ?_)
  obtain ⟨a, ns, rfl, ha, hz, q⟩ := h
  refine ⟨_, (pss_one (ps_ret (pe_lc (own := [("share", 1)]) (g := gName 1) rfl sc_halved.nd (pi_listK (K := K) (pv 0)) (blkOk_by (own := [("share", 1)]) (N := ["shares", "share"]) (sc := defScope s_halved) (by decide +kernel)) (fun _ _ _ _ _ => (pg_name (i := 1) sc_halved.nd rfl (Or.inl rfl))) (fun _ _ _ _ _ => pts_nil) (fun _ _ _ _ _ => (pe_op op_sub (pv 1) (pe_op op_fdiv (pv 1) pe_int)))))), ?_⟩
  refine w_start (σ' := [some _, none]) rfl ?_
  try dsimp only [cxOf, Cx.nox, Cx.wish]
  walk_at "ss"
  refine lc_pure (walk_list (xs := ns.map V.int)) ((halvedL ns).map V.int) (by simp [halved_length]) (by rw [List.length_map]; exact hz) (fun H' s => s.seq ha) (fun i x y H1 H2 R hi hy s1 hx k => ?_) (fun p H' s hp h => q p H' s hp h)
  obtain ⟨rfl, hx⟩ := hx
  obtain ⟨n, hn, rfl⟩ := map_int hx
  have hy' : y = .int (n - n / 2) := by
    rw [List.getElem?_map] at hy
    unfold halvedL at hy
    rw [List.getElem?_map, hn] at hy
    exact (Option.some.inj hy).symm
  walk_at "ss"
  refine ⟨rfl, ?_⟩
  walk_at "ss"
  rw [hy'] at k
  exact k _ (Same.refl _)
end
theorem sc_learnt : FnScope ["shares", "counts", "cap", "found", "share", "more"] ["shares", "counts", "cap"] (defScope s_learnt) := ⟨rfl, rfl, rfl, by decide +kernel, rfl, by decide +kernel, by decide +kernel⟩
section
variable {P : Program} {w : World} {K : PySem.W.Frag} {mg : Str → Option Value} {base : Heap} {A : Adr}
/-- counts and a cap that go with shares -/
structure GoodL (ns cs : List Int) (cap : Int) : Prop where
  sh : Good ns
  len : cs.length = ns.length
  each : ∀ n ∈ cs, 0 ≤ n ∧ n ≤ mostShare
  lo : (ns.length : Int) ≤ cap
  hi : cap ≤ 1000000
def sp_learnt (K : PySem.W.Frag) : L2.Sp := fun vs H Q _ => ∃ (a b : Addr) (ns cs : List Int) (cap : Int), vs = [.ref a, .ref b, .int cap] ∧ H a = some (.lst (ns.map V.int)) ∧ H b = some (.lst (cs.map V.int)) ∧ GoodL ns cs cap ∧ ∀ p H', Same H H' → H p = none → H' p = some (.lst ((learntL ns cs cap).map V.int)) → Q (.ref p) H'
theorem u_learnt {H : Hp} {Q : VK} {E : XK} {a b : Addr} {ns cs : List Int} {cap : Int} (h1 : H a = some (.lst (ns.map V.int))) (h2 : H b = some (.lst (cs.map V.int))) (g : GoodL ns cs cap) (q : ∀ p H', Same H H' → H p = none → H' p = some (.lst ((learntL ns cs cap).map V.int)) → Q (.ref p) H') : sp_learnt K [.ref a, .ref b, .int cap] H Q E := ⟨a, b, ns, cs, cap, rfl, h1, h2, g, q⟩
theorem ok_learnt (T : Txt K mg A) : FnOk P w K mg base CX0 4 A.f_learnt A.d_learnt ["shares", "counts", "cap"] (sp_learnt K) := by
  have G_halved := ok_halved (P := P) (w := w) (base := base) T
  have G_need_shares := ok_need_shares (P := P) (w := w) (base := base) T
  have G_whole := ok_whole (P := P) (w := w) (base := base) T
  have G_whole_row := ok_whole_row (P := P) (w := w) (base := base) T
  refine T.F_learnt.ok sc_learnt (fun vs H Q E h => by first | (obtain ⟨rfl, _⟩ := h; rfl) | (obtain ⟨_, rfl, _⟩ := h; rfl) | (obtain ⟨_, _, rfl, _⟩ := h; rfl) | (obtain ⟨_, _, _, rfl, _⟩ := h; rfl) | (obtain ⟨_, _, _, _, rfl, _⟩ := h; rfl) | (obtain ⟨_, _, _, _, _, rfl, _⟩ := h; rfl) | (obtain ⟨_, _, _, _, _, _, rfl, _⟩ := h; rfl) | (obtain ⟨_, _, _, _, _, _, _, rfl, _⟩ := h; rfl) | (obtain ⟨_, _, _, _, _, _, _, _, rfl, _⟩ := h; rfl) | (obtain ⟨_, _, _, _, _, _, _, _, _, rfl, _⟩ := h; rfl) | (obtain ⟨_, _, _, _, _, _, _, _, _, _, rfl, _⟩ := h; rfl) | (obtain ⟨_, _, _, _, _, _, _, _, _, _, _, rfl, _⟩ := h; rfl) | (obtain ⟨_, _, _, _, _, _, _, _, _, _, _, _, rfl, _⟩ := h; rfl) | (obtain ⟨_, _, _, _, _, _, _, _, _, _, _, _, _, rfl, _⟩ := h; rfl) | (obtain ⟨_, _, _, _, _, _, _, _, _, _, _, _, _, _, rfl, _⟩ := h; rfl) | (obtain ⟨_, _, _, _, _, _, _, _, _, _, _, _, _, _, _, rfl, _⟩ := h; rfl) | (obtain ⟨_, _, _, _, _, _, _, _, _, _, _, _, _, _, _, _, rfl, _⟩ := h; rfl) | (obtain ⟨_, _, _, _, _, _, _, _, _, _, _, _, _, _, _, _, _, rfl, _⟩ := h; rfl) | (obtain ⟨_, _, _, _, _, _, _, _, _, _, _, _, _, _, _, _, _, _, rfl, _⟩ := h; rfl) | (obtain ⟨_, _, _, _, _, _, _, _, _, _, _, _, _, _, _, _, _, _, _, rfl, _⟩ := h; rfl) | (obtain ⟨_, _, _, _, _, _, _, _, _, _, _, _, _, _, _, _, _, _, _, _, rfl, _⟩ := h; rfl) | (obtain ⟨_, _, _, _, _, _, _, _, _, _, _, _, _, _, _, _, _, _, _, _, _, rfl, _⟩ := h; rfl)) (fun cdv Ar outer s H vs Q E hr h => ?_)
  obtain ⟨a, b, ns, cs, cap, rfl, ha, hb, g, q⟩ := h
  have hr_halved := hr.mono (by decide : 1 ≤ 3)
  have hr_need_shares := hr.mono (by decide : 3 ≤ 3)
  have hr_whole := hr.mono (by decide : 1 ≤ 3)
  have hr_whole_row := hr.mono (by decide : 2 ≤ 3)
  refine ⟨_, (pss_cons (ps_expr (pe_call G_need_shares hr_need_shares rfl T.g_need_shares T.F_need_shares.kp T.b_need_shares .nil pass0 (pa_cons (pv 0) pa_nil)))
      (pss_cons (ps_if (PW.pt (pw_or (pt_not (pt_val (pe_call G_whole_row hr_whole_row rfl T.g_whole_row T.F_whole_row.kp T.b_whole_row .nil pass0 (pa_cons (pv 1) (pa_cons pe_int pa_nil))))) (pw_or1 (pt_cmpR op_ne (pe_callB (call_lenK (K := K)) (by rfl) T.n_len PySem.boot_len (pa_cons (pv 1) pa_nil)) (pe_callB (call_lenK (K := K)) (by rfl) T.n_len PySem.boot_len (pa_cons (pv 0) pa_nil)) (nomark _))))) (pss_one ps_never)
      pss_nil)
      (pss_cons (ps_if (pt_not (pt_val (pe_call G_whole hr_whole rfl T.g_whole T.F_whole.kp T.b_whole .nil pass0 (pa_cons (pv 2) (pa_cons (pe_callB (call_lenK (K := K)) (by rfl) T.n_len PySem.boot_len (pa_cons (pv 0) pa_nil)) (pa_cons (pe_glob (v := .int 1000000) rfl T.c_MOST_CAP ⟨_, rfl⟩) pa_nil)))))) (pss_one ps_never)
      pss_nil)
      (pss_cons (ps_setLc (i := 3) (own := [("share", 4), ("more", 5)]) (g := gTup K 2 (gCons (gName 4) (gCons (gName 5) gNil))) rfl sc_learnt.nd rfl rfl (sw_true rfl rfl rfl (by decide +kernel)) (pi_zipK (K := K) (by rfl) T.n_zip (pa_cons (pv 0) (pa_cons (pv 1) pa_nil))) (blkOk_by (own := [("share", 4), ("more", 5)]) (N := ["shares", "counts", "cap", "found", "share", "more"]) (sc := defScope s_learnt) (by decide +kernel)) (fun _ _ _ _ _ => (pg_tupK (K := K) rfl (pgs_cons (pg_name (i := 4) sc_learnt.nd rfl (Or.inl rfl)) (pgs_cons (pg_name (i := 5) sc_learnt.nd rfl (Or.inl rfl)) pgs_nil)))) (fun _ _ _ _ _ => pts_nil) (fun _ _ _ _ _ => (pe_op op_add (pv 4) (pv 5))))
      (pss_cons (ps_while PassesOwn.never (pt_cmpR op_gt (pe_callB (cr_sumK (K := K) rfl) (by rfl) T.n_sum (by decide +kernel) (pa_cons (pv 3) pa_nil)) (pv 2) (nomark _)) (pss_one (ps_set (i := 3) sc_learnt.nd rfl (Or.inl rfl) (pe_call G_halved hr_halved rfl T.g_halved T.F_halved.kp T.b_halved .nil pass0 (pa_cons (pv 3) pa_nil)))))
      (pss_one (ps_ret (pv 3)))))))), ?_⟩
  refine w_start (σ' := [some _, some _, some _, none, none, none]) rfl ?_
  try dsimp only [cxOf, Cx.nox, Cx.wish]
  walk_at "ss"
  refine u_need_shares ha g.sh ?_
  walk_at "ss"
  refine u_whole_row hb (fun y hy => by obtain ⟨n, _, rfl⟩ := List.mem_map.mp hy; exact trivial) ?_
  rw [rowOk_ints g.each]
  walk_at "ss"
  rw [List.length_map, List.length_map]
  refine w_iteNI (fun h => (h (by rw [g.len])).elim) (fun h => ?_)
  walk_at "ss"
  rw [List.length_map]
  refine u_wholeI ?_
  walk_at "ss"
  refine w_iteKF (by rw [decide_eq_true g.lo, decide_eq_true g.hi]; rfl) ?_
  walk_at "ss"
  have hl := addL_length g.len
  have few := g.sh.few
  refine lc_pure (walk_zip (n := ns.length) (xs := ns.map V.int) (ys := cs.map V.int) (by simp [g.len])) ((addL ns cs).map V.int) (by simp [hl]) (Nat.le_trans few (by decide)) (fun H' s => ⟨s.seq (SqL.of ha), s.seq (SqL.of hb)⟩) (fun i x y H1 H2 R hi hy s1 hx k => ?_) (fun p H' s hp h => ?_)
  · obtain ⟨T', x1, x2, rfl, hT, rfl, hx, hc⟩ := hx
    obtain ⟨m, hm, rfl⟩ := map_int hx
    obtain ⟨n, hn, rfl⟩ := map_int hc
    obtain ⟨z, hz, rfl⟩ := map_int hy
    obtain ⟨m', n', e1, e2, rfl⟩ := addL_get hz
    rw [hm] at e1
    rw [hn] at e2
    cases e1
    cases e2
    refine w_gTup (SqT.of upd_same) rfl ?_
    walk_at "ss"
    refine ⟨rfl, ?_⟩
    walk_at "ss"
    exact k _ (same_new hT)
  · have pos : ∀ x ∈ addL ns cs, 1 ≤ x := addL_pos (fun x hx => (g.sh.each x hx).1) fun y hy => (g.each y hy).1
    have lo := g.lo
    refine w_while (W := fun m σ' H' => ∃ (l : Addr) (xs : List Int) (v w : Option V), m = xs.sum.toNat ∧ σ' = [some (.ref a), some (.ref b), some (.int cap), some (.ref l), v, w] ∧ Same H H' ∧ H l = none ∧ H' l = some (.lst (xs.map V.int)) ∧ xs.length = ns.length ∧ (∀ x ∈ xs, 1 ≤ x) ∧ ∃ n, learntL ns cs cap = shrink n cap xs ∧ xs.sum.toNat ≤ n)
      (m0 := (addL ns cs).sum.toNat) ⟨p, addL ns cs, none, none, rfl, rfl, s, hp, h, hl, pos, _, rfl, Nat.le_refl _⟩ ?_
    rintro m σ' H1 ⟨l, xs, v, w, rfl, rfl, s1, hl0, hl1, hlen, hpos, n, e, hn⟩
    walk_at "ss"
    refine w_ite (fun hs => ?_) (fun hs => ?_)
    · walk_at "ss"
      refine u_halved (SqL.of hl1) (by rw [hlen]; exact Nat.le_trans few (by decide)) (fun p2 H2 s2 hp2 h2 => ?_)
      obtain ⟨n', e', hn', less⟩ := shrink_turn hpos (by rw [hlen]; exact lo) hs hn
      refine ⟨_, less, p2, halvedL xs, v, w, rfl, rfl, s1.trans s2, s1.free hp2, h2, by rw [halved_length, hlen], halved_pos hpos, n', by rw [e, e'], hn'⟩
    · walk_at "ss"
      refine q l H1 s1 hl0 ?_
      rw [e, shrink_done hs]
      exact hl1
end
theorem sc_pairs : FnScope ["shares", "left", "found", "one", "other", "number", "share"] ["shares"] (defScope s_pairs) := ⟨rfl, rfl, rfl, by decide +kernel, rfl, by decide +kernel, by decide +kernel⟩
section
variable {P : Program} {w : World} {K : PySem.W.Frag} {mg : Str → Option Value} {base : Heap} {A : Adr}
def sp_pairs : L2.Sp := fun vs H Q _ => ∃ (a : Addr) (ns : List Int), vs = [.ref a] ∧ H a = some (.lst (ns.map V.int)) ∧ Good ns ∧ ∀ p H', Same H H' → H p = none → RowsAt H' p (pairsL ns) → Q (.ref p) H'
theorem u_pairs {H : Hp} {Q : VK} {E : XK} {a : Addr} {ns : List Int} (h : H a = some (.lst (ns.map V.int))) (g : Good ns) (q : ∀ p H', Same H H' → H p = none → RowsAt H' p (pairsL ns) → Q (.ref p) H') : sp_pairs [.ref a] H Q E := ⟨a, ns, rfl, h, g, q⟩
theorem ok_pairs (T : Txt K mg A) : FnOk P w K mg base CX0 4 A.f_pairs A.d_pairs ["shares"] (sp_pairs) := by
  have G_need_shares := ok_need_shares (P := P) (w := w) (base := base) T
  refine T.F_pairs.ok sc_pairs (fun vs H Q E h => by first | (obtain ⟨rfl, _⟩ := h; rfl) | (obtain ⟨_, rfl, _⟩ := h; rfl) | (obtain ⟨_, _, rfl, _⟩ := h; rfl) | (obtain ⟨_, _, _, rfl, _⟩ := h; rfl) | (obtain ⟨_, _, _, _, rfl, _⟩ := h; rfl) | (obtain ⟨_, _, _, _, _, rfl, _⟩ := h; rfl) | (obtain ⟨_, _, _, _, _, _, rfl, _⟩ := h; rfl) | (obtain ⟨_, _, _, _, _, _, _, rfl, _⟩ := h; rfl) | (obtain ⟨_, _, _, _, _, _, _, _, rfl, _⟩ := h; rfl) | (obtain ⟨_, _, _, _, _, _, _, _, _, rfl, _⟩ := h; rfl) | (obtain ⟨_, _, _, _, _, _, _, _, _, _, rfl, _⟩ := h; rfl) | (obtain ⟨_, _, _, _, _, _, _, _, _, _, _, rfl, _⟩ := h; rfl) | (obtain ⟨_, _, _, _, _, _, _, _, _, _, _, _, rfl, _⟩ := h; rfl) | (obtain ⟨_, _, _, _, _, _, _, _, _, _, _, _, _, rfl, _⟩ := h; rfl) | (obtain ⟨_, _, _, _, _, _, _, _, _, _, _, _, _, _, rfl, _⟩ := h; rfl) | (obtain ⟨_, _, _, _, _, _, _, _, _, _, _, _, _, _, _, rfl, _⟩ := h; rfl) | (obtain ⟨_, _, _, _, _, _, _, _, _, _, _, _, _, _, _, _, rfl, _⟩ := h; rfl) | (obtain ⟨_, _, _, _, _, _, _, _, _, _, _, _, _, _, _, _, _, rfl, _⟩ := h; rfl) | (obtain ⟨_, _, _, _, _, _, _, _, _, _, _, _, _, _, _, _, _, _, rfl, _⟩ := h; rfl) | (obtain ⟨_, _, _, _, _, _, _, _, _, _, _, _, _, _, _, _, _, _, _, rfl, _⟩ := h; rfl) | (obtain ⟨_, _, _, _, _, _, _, _, _, _, _, _, _, _, _, _, _, _, _, _, rfl, _⟩ := h; rfl) | (obtain ⟨_, _, _, _, _, _, _, _, _, _, _, _, _, _, _, _, _, _, _, _, _, rfl, _⟩ := h; rfl)) (fun cdv Ar outer s H vs Q E hr h => ?_)
  obtain ⟨a, ns, rfl, ha, g, q⟩ := h
  have hr_need_shares := hr.mono (by decide : 3 ≤ 3)
  refine ⟨_, (pss_cons (ps_expr (pe_call G_need_shares hr_need_shares rfl T.g_need_shares T.F_need_shares.kp T.b_need_shares .nil pass0 (pa_cons (pv 0) pa_nil)))
      (pss_cons (ps_setLc (i := 1) (own := [("number", 5), ("share", 6)]) (g := gTup K 2 (gCons (gName 5) (gCons (gName 6) gNil))) rfl sc_pairs.nd rfl rfl (sw_true rfl rfl rfl (by decide +kernel)) (pi_enumK (K := K) (by rfl) T.n_enumerate (pa_cons (pv 0) pa_nil)) (blkOk_by (own := [("number", 5), ("share", 6)]) (N := ["shares", "left", "found", "one", "other", "number", "share"]) (sc := defScope s_pairs) (by decide +kernel)) (fun _ _ _ _ _ => (pg_tupK (K := K) rfl (pgs_cons (pg_name (i := 5) sc_pairs.nd rfl (Or.inl rfl)) (pgs_cons (pg_name (i := 6) sc_pairs.nd rfl (Or.inl rfl)) pgs_nil)))) (fun _ _ _ _ _ => pts_nil) (fun _ _ _ _ _ => (pe_tup (pa_cons (pv 6) (pa_cons (pv 5) pa_nil)))))
      (pss_cons (ps_set (i := 2) sc_pairs.nd rfl (Or.inl rfl) (pe_lst pa_nil))
      (pss_cons (ps_while PassesOwn.never (pt_cmpR op_gt (pe_callB (call_lenK (K := K)) (by rfl) T.n_len PySem.boot_len (pa_cons (pv 1) pa_nil)) pe_int (nomark _)) (pss_cons (ps_set (i := 1) sc_pairs.nd rfl (Or.inl rfl) (pe_callB (cr_sortedK (K := K)) (by rfl) T.n_sorted (by decide +kernel) (pa_cons (pv 1) pa_nil)))
      (pss_cons (ps_set (i := 3) sc_pairs.nd rfl (Or.inl rfl) (pe_ix (ix_listK (K := K)) (pv 1) pe_int (fun _ _ => rfl)))
      (pss_cons (ps_set (i := 4) sc_pairs.nd rfl (Or.inl rfl) (pe_ix (ix_listK (K := K)) (pv 1) pe_int (fun _ _ => rfl)))
      (pss_cons (ps_set (i := 1) sc_pairs.nd rfl (Or.inl rfl) (pe_slice (sl_listK (K := K)) (pv 1) (po_some pe_int) po_none))
      (pss_cons (ps_expr (pe_bmK (K := K) PySem.F.plainAttrs_list PySem.F.slot_list_append PySem.F.type_list_append mt_append (pv 1) (pa_cons (pe_tup (pa_cons (pe_op op_add (pe_ix (ix_tupK (K := K)) (pv 3) pe_int (fun _ _ => rfl)) (pe_ix (ix_tupK (K := K)) (pv 4) pe_int (fun _ _ => rfl))) (pa_cons (pe_op op_add (pe_callB (call_lenK (K := K)) (by rfl) T.n_len PySem.boot_len (pa_cons (pv 0) pa_nil)) (pe_callB (call_lenK (K := K)) (by rfl) T.n_len PySem.boot_len (pa_cons (pv 2) pa_nil))) pa_nil))) pa_nil)))
      (pss_one (ps_expr (pe_bmK (K := K) PySem.F.plainAttrs_list PySem.F.slot_list_append PySem.F.type_list_append mt_append (pv 2) (pa_cons (pe_tup (pa_cons (pe_ix (ix_tupK (K := K)) (pv 3) pe_int (fun _ _ => rfl)) (pa_cons (pe_ix (ix_tupK (K := K)) (pv 4) pe_int (fun _ _ => rfl)) pa_nil))) pa_nil))))))))))
      (pss_one (ps_ret (pv 2))))))), ?_⟩
  refine w_start (σ' := [some _, none, none, none, none, none, none]) rfl ?_
  try dsimp only [cxOf, Cx.nox, Cx.wish]
  have few := g.few
  walk_at "ss"
  refine u_need_shares ha g ?_
  walk_at "ss"
  intro D hD
  refine lc_it (walk_enum (K := K) (a := a) (xs := ns.map V.int)) (fun i H' => Same H H' ∧ ∃ acc, H' D = some (.lst acc) ∧ NodesAt H' acc ((nodesOf ns).take i)) ⟨same_new0 hD, [], upd_same, .nil⟩ (fun i H' _ p => p.1.seq (SqL.of ha)) (fun i x H1 H2 hi p y => ?_) (fun H1 p => ?_)
  · obtain ⟨s1, acc, hacc, hn⟩ := p
    obtain ⟨T0, x1, x2, rfl, hT, rfl, hx1, hx2⟩ := y
    cases (Option.some.inj hx1)
    obtain ⟨n, hn2, rfl⟩ := map_int hx2
    rw [List.length_map] at hi
    refine w_gTup (SqT.of upd_same) rfl ?_
    walk_at "ss"
    refine ⟨rfl, ?_⟩
    walk_at "ss"
    refine w_new (fun t H3 s3 ht h3 => ?_)
    have s2 : Same H1 H3 := (same_new0 hT).trans s3
    have ln : acc.length = i := by
      have := hn.length
      rw [this, List.length_take, nodesOf_len]
      omega
    refine ⟨acc, s2 _ _ hacc, Nat.lt_of_le_of_lt (show _ ≤ 40 by omega) (by decide), same_mut0 (s1.trans s2) hD, _, upd_same, ?_⟩
    have e : (nodesOf ns)[i]? = some (n, i) := by
      unfold nodesOf
      rw [List.getElem?_zipIdx, hn2]
      show some (n, 0 + i) = _
      rw [Nat.zero_add]
    rw [take_succ e]
    have hs : NodesAt H3 (acc ++ [V.ref t]) ((nodesOf ns).take i ++ [(n, i)]) := Paired.snoc (hn.same s2) ⟨t, rfl, h3⟩
    exact hs.mut (s2 _ _ hacc)
  · obtain ⟨s1, acc, hacc, hn⟩ := p
    rw [List.length_map, show (nodesOf ns).take ns.length = nodesOf ns by rw [← nodesOf_len]; exact List.take_length] at hn
    walk_at "ss"
    refine w_new (fun f H2 s2 hf h2 => ?_)
    walk_at "ss"
    have nf : D ≠ f := ne_of_none hacc hf
    refine w_while (W := fun m σ' H' => ∃ (l : Addr) (xs ys : List V) (left : List Node) (rows : List (Nat × Nat)) (u v w x : Option V) (k : Nat), σ' = [some (.ref a), some (.ref l), some (.ref f), u, v, w, x] ∧ m = left.length ∧ Same H H' ∧ H f = none ∧ H' l = some (.lst xs) ∧ l ≠ f ∧ NodesAt H' xs left ∧ H' f = some (.lst ys) ∧ RowsIn H' ys rows ∧
      pairsL ns = rows ++ pairLoop k (ns.length + rows.length) left ∧ left.length ≤ k + 1 ∧ left.length + rows.length = ns.length) (m0 := (nodesOf ns).length)
      ⟨D, acc, [], nodesOf ns, [], none, none, none, none, ns.length, rfl, rfl, s1.trans s2, s1.free hf, s2 _ _ hacc, nf, hn.same s2, h2, .nil, rfl, by rw [nodesOf_len]; omega, by rw [nodesOf_len]; rfl⟩ ?_
    rintro m σ' H3 ⟨l, xs, ys, left, rows, u, v, w, x, k, rfl, rfl, s3, hf0, hl, hlf, hnl, hfy, hry, e, hk, hlen⟩
    have lx : xs.length = left.length := hnl.length
    have ly : ys.length = rows.length := hry.length
    walk_at "ss"
    rw [lx]
    refine w_ite (fun h => ?_) (fun h => ?_)
    · have h2' : 2 ≤ left.length := by omega
      obtain ⟨na, nb, r, es, hr⟩ := two_of h2'
      walk_at "ss"
      refine w_sorted (SqL.of hl) hnl (fun p1 zs H4 s4 hp1 hz hzn => ?_)
      rw [es] at hzn
      obtain ⟨k', rfl⟩ : ∃ k', k = k' + 1 := ⟨k - 1, by omega⟩
      cases hzn with
      | @cons z1 _ zs1 _ hza hzn =>
        cases hzn with
        | @cons z2 _ zs2 _ hzb hzr =>
          obtain ⟨t1, rfl, ht1⟩ := hza
          obtain ⟨t2, rfl, ht2⟩ := hzb
          have hfy4 := s4 _ _ hfy
          walk_at "ss"
          refine w_ixL (SqL.of hz) at0 ?_
          walk_at "ss"
          refine w_ixL (SqL.of hz) at1 ?_
          walk_at "ss"
          refine w_new (fun p2 H5 s5 hp2 h5 => ?_)
          walk_at "ss"
          refine w_ixT (SqT.of (s5 _ _ ht1)) at0 ?_
          walk_at "ss"
          refine w_ixT (SqT.of (s5 _ _ ht2)) at0 ?_
          walk_at "ss"
          refine w_new (fun t3 H6 s6 ht3 h6 => ?_)
          walk_at "ss"
          have h56 := s6 _ _ h5
          have hf6 := s6 _ _ (s5 _ _ hfy4)
          refine w_app h56 (by simp [cutV]; exact Nat.lt_of_le_of_lt (show _ ≤ 40 by have := hzr.length; omega) (by decide)) ?_
          have n1 : p2 ≠ f := fun q => by rw [q, hfy4] at hp2; cases hp2
          have ht1' := s6 _ _ (s5 _ _ ht1)
          have ht2' := s6 _ _ (s5 _ _ ht2)
          have hf7 : (upd H6 p2 (.lst (cutV (V.ref t1 :: V.ref t2 :: zs2) (some 2) none ++ [V.ref t3]))) f = some (.lst ys) := by rw [upd_ne (Ne.symm n1)]; exact hf6
          walk_at "ss"
          refine w_ixT (SqT.of (tup_ne ht1' h56)) at1 ?_
          walk_at "ss"
          refine w_ixT (SqT.of (tup_ne ht2' h56)) at1 ?_
          walk_at "ss"
          refine w_new (fun t4 H8 s8 ht4 h8 => ?_)
          walk_at "ss"
          have hf8 := s8 _ _ hf7
          refine w_app hf8 (by rw [ly]; exact Nat.lt_of_le_of_lt (show _ ≤ 40 by omega) (by decide)) ?_
          have p2f : H p2 = none := s3.free (s4.free hp2)
          have S8 : Same H H8 := (same_mut0 (s3.trans (s4.trans (s5.trans s6))) p2f).trans s8
          have cut : cutV (V.ref t1 :: V.ref t2 :: zs2) (some 2) none = zs2 := by
            unfold cutV
            rw [HT.sIx_none, show (2 : Int) = ((2 : Nat) : Int) from rfl, HT.sIx_nat, List.length_cons, List.length_cons, show min 2 (zs2.length + 1 + 1) = 2 by omega]
            show zs2.take _ = zs2
            exact List.take_of_length_le (by omega)
          rw [cut] at hf7 s8
          have hp28 := s8 _ _ upd_same
          have hN6 : NodesAt H6 zs2 r := NodesAt.same hzr (s5.trans s6)
          have hN7 : NodesAt (upd H6 p2 (.lst (zs2 ++ [V.ref t3]))) (zs2 ++ [V.ref t3]) (r ++ [(na.1 + nb.1, ns.length + rows.length)]) := Paired.snoc (hN6.mut h56) ⟨t3, rfl, by
            rw [tup_ne h6 h56, List.length_map, ly]
            rfl⟩
          have hR7 : RowsIn (upd H6 p2 (.lst (zs2 ++ [V.ref t3]))) ys rows := (hry.same (s4.trans (s5.trans s6))).mut h56
          refine ⟨left.length - 1, by omega, p2, zs2 ++ [V.ref t3], ys ++ [V.ref t4], r ++ [(na.1 + nb.1, ns.length + rows.length)], rows ++ [(na.2, nb.2)], _, _, _, _, k', rfl, by simp; omega, same_mut0 S8 hf0, hf0, by rw [upd_ne n1]; exact hp28, n1, ?_, upd_same, ?_, ?_, by simp; omega, by simp; omega⟩
          · exact (hN7.same s8).mut hf8
          · exact RowsIn.mut (Paired.snoc (hR7.same s8) ⟨t4, rfl, h8⟩) hf8
          · rw [e, pairLoop_step es, List.append_assoc, List.length_append]
            rfl
    · walk_at "ss"
      have hl1 : left.length ≤ 1 := by omega
      rw [pairLoop_done hl1, List.append_nil] at e
      rw [e] at q
      exact q f H3 s3 hf0 ⟨ys, hfy, hry⟩
end
theorem sc_codes : FnScope ["shares", "rows", "ways", "k", "way", "one"] ["shares"] (defScope s_codes) := ⟨rfl, rfl, rfl, by decide +kernel, rfl, by decide +kernel, by decide +kernel⟩
section
variable {P : Program} {w : World} {K : PySem.W.Frag} {mg : Str → Option Value} {base : Heap} {A : Adr}
def sp_codes : L2.Sp := fun vs H Q _ => ∃ (a : Addr) (ns : List Int), vs = [.ref a] ∧ H a = some (.lst (ns.map V.int)) ∧ Good ns ∧ ∀ p H', Same H H' → H p = none → H' p = some (.lst (wordsV (codesL ns))) → Q (.ref p) H'
theorem u_codes {H : Hp} {Q : VK} {E : XK} {a : Addr} {ns : List Int} (h : H a = some (.lst (ns.map V.int))) (g : Good ns) (q : ∀ p H', Same H H' → H p = none → H' p = some (.lst (wordsV (codesL ns))) → Q (.ref p) H') : sp_codes [.ref a] H Q E := ⟨a, ns, rfl, h, g, q⟩
/-- the words grow by one sign at each pair -/
theorem waysStep_small {n k B : Nat} {rows : List (Nat × Nat)} {A : List Word} (h : ∀ w ∈ A, w.length ≤ B) : ∀ w ∈ waysStep n rows k A, w.length ≤ B + 1 := by
  intro w hw
  unfold waysStep at hw
  have hg : (A.getD (n + k) []).length ≤ B := by
    rw [List.getD_eq_getElem?_getD]
    cases e : A[n + k]? with
    | none => exact Nat.zero_le _
    | some x => exact h x (List.mem_of_getElem? e)
  split at hw
  · rcases List.mem_or_eq_of_mem_set hw with q | q
    · rcases List.mem_or_eq_of_mem_set q with q | q
      · exact Nat.le_succ_of_le (h w q)
      · rw [q, List.length_append]; exact Nat.add_le_add_right hg 1
    · rw [q, List.length_append]; exact Nat.add_le_add_right hg 1
  · exact Nat.le_succ_of_le (h w hw)
theorem ok_codes (T : Txt K mg A) : FnOk P w K mg base CX0 5 A.f_codes A.d_codes ["shares"] (sp_codes) := by
  have G_pairs := ok_pairs (P := P) (w := w) (base := base) T
  refine T.F_codes.ok sc_codes (fun vs H Q E h => by first | (obtain ⟨rfl, _⟩ := h; rfl) | (obtain ⟨_, rfl, _⟩ := h; rfl) | (obtain ⟨_, _, rfl, _⟩ := h; rfl) | (obtain ⟨_, _, _, rfl, _⟩ := h; rfl) | (obtain ⟨_, _, _, _, rfl, _⟩ := h; rfl) | (obtain ⟨_, _, _, _, _, rfl, _⟩ := h; rfl) | (obtain ⟨_, _, _, _, _, _, rfl, _⟩ := h; rfl) | (obtain ⟨_, _, _, _, _, _, _, rfl, _⟩ := h; rfl) | (obtain ⟨_, _, _, _, _, _, _, _, rfl, _⟩ := h; rfl) | (obtain ⟨_, _, _, _, _, _, _, _, _, rfl, _⟩ := h; rfl) | (obtain ⟨_, _, _, _, _, _, _, _, _, _, rfl, _⟩ := h; rfl) | (obtain ⟨_, _, _, _, _, _, _, _, _, _, _, rfl, _⟩ := h; rfl) | (obtain ⟨_, _, _, _, _, _, _, _, _, _, _, _, rfl, _⟩ := h; rfl) | (obtain ⟨_, _, _, _, _, _, _, _, _, _, _, _, _, rfl, _⟩ := h; rfl) | (obtain ⟨_, _, _, _, _, _, _, _, _, _, _, _, _, _, rfl, _⟩ := h; rfl) | (obtain ⟨_, _, _, _, _, _, _, _, _, _, _, _, _, _, _, rfl, _⟩ := h; rfl) | (obtain ⟨_, _, _, _, _, _, _, _, _, _, _, _, _, _, _, _, rfl, _⟩ := h; rfl) | (obtain ⟨_, _, _, _, _, _, _, _, _, _, _, _, _, _, _, _, _, rfl, _⟩ := h; rfl) | (obtain ⟨_, _, _, _, _, _, _, _, _, _, _, _, _, _, _, _, _, _, rfl, _⟩ := h; rfl) | (obtain ⟨_, _, _, _, _, _, _, _, _, _, _, _, _, _, _, _, _, _, _, rfl, _⟩ := h; rfl) | (obtain ⟨_, _, _, _, _, _, _, _, _, _, _, _, _, _, _, _, _, _, _, _, rfl, _⟩ := h; rfl) | (obtain ⟨_, _, _, _, _, _, _, _, _, _, _, _, _, _, _, _, _, _, _, _, _, rfl, _⟩ := h; rfl)) (fun cdv Ar outer s H vs Q E hr h => ?_)
  obtain ⟨a, ns, rfl, ha, g, q⟩ := h
  have hr_pairs := hr.mono (by decide : 4 ≤ 4)
  refine ⟨_, (pss_cons (ps_set (i := 1) sc_codes.nd rfl (Or.inl rfl) (pe_call G_pairs hr_pairs rfl T.g_pairs T.F_pairs.kp T.b_pairs .nil pass0 (pa_cons (pv 0) pa_nil)))
      (pss_cons (ps_setLc (i := 2) (own := [("one", 5)]) (g := gName 5) rfl sc_codes.nd rfl rfl (sw_true rfl rfl rfl (by decide +kernel)) (pi_range1 rfl T.n_range (pa_cons (pe_op op_add (pe_callB (call_lenK (K := K)) (by rfl) T.n_len PySem.boot_len (pa_cons (pv 0) pa_nil)) (pe_callB (call_lenK (K := K)) (by rfl) T.n_len PySem.boot_len (pa_cons (pv 1) pa_nil))) pa_nil)) (blkOk_by (own := [("one", 5)]) (N := ["shares", "rows", "ways", "k", "way", "one"]) (sc := defScope s_codes) (by decide +kernel)) (fun _ _ _ _ _ => (pg_name (i := 5) sc_codes.nd rfl (Or.inl rfl))) (fun _ _ _ _ _ => pts_nil) (fun _ _ _ _ _ => pe_str))
      (pss_cons (ps_for PassesOwn.never rfl (pi_revR (by rfl) T.n_reversed (prg_1 (by rfl) T.n_range (pe_callB (call_lenK (K := K)) (by rfl) T.n_len PySem.boot_len (pa_cons (pv 1) pa_nil)))) (pg_name (i := 3) sc_codes.nd rfl (Or.inl rfl))
      (pss_cons (ps_set (i := 4) sc_codes.nd rfl (Or.inl rfl) (pe_ix (ix_listK (K := K)) (pv 2) (pe_op op_add (pe_callB (call_lenK (K := K)) (by rfl) T.n_len PySem.boot_len (pa_cons (pv 0) pa_nil)) (pv 3)) (fun _ _ => rfl)))
      (pss_cons (ps_asg (pe_op op_add_str (pv 4) pe_str) (pg_sub (pv 2) (pe_ix (ix_tupK (K := K)) (pe_ix (ix_listK (K := K)) (pv 1) (pv 3) (fun _ _ => rfl)) pe_int (fun _ _ => rfl)) set_list))
      (pss_one (ps_asg (pe_op op_add_str (pv 4) pe_str) (pg_sub (pv 2) (pe_ix (ix_tupK (K := K)) (pe_ix (ix_listK (K := K)) (pv 1) (pv 3) (fun _ _ => rfl)) pe_int (fun _ _ => rfl)) set_list))))))
      (pss_one (ps_ret (pe_slice (sl_listK (K := K)) (pv 2) po_none (po_some (pe_callB (call_lenK (K := K)) (by rfl) T.n_len PySem.boot_len (pa_cons (pv 0) pa_nil))))))))), ?_⟩
  refine w_start (σ' := [some _, none, none, none, none, none]) rfl ?_
  try dsimp only [cxOf, Cx.nox, Cx.wish]
  have few := g.few
  have pos := g.pos
  walk_at "ss"
  refine u_pairs ha g (fun p1 H1 s1 hp1 hR => ?_)
  obtain ⟨rowsV, hrow, hRin⟩ := hR
  have lrow : rowsV.length = (pairsL ns).length := hRin.length
  have lp := pairsL_len ns
  have N := nums_pairs ns
  walk_at "ss"
  rw [List.length_map, lrow]
  walk_at "ss"
  refine lc_pure walk_range0 (wordsV (List.replicate (ns.length + (pairsL ns).length) [])) (by rw [wordsV_len, List.length_replicate]; omega) (Nat.le_trans (show _ ≤ 100 by omega) (by decide)) (fun _ _ => trivial) (fun i x y H3 H2 R hi hy s3 hx k => ?_) (fun pw H2 s2 hpw hw => ?_)
  · obtain ⟨rfl, rfl⟩ := hx
    obtain ⟨w', hw', rfl⟩ := wordsV_get hy
    rw [List.getElem?_replicate] at hw'
    split at hw'
    · cases hw'
      walk_at "ss"
      refine ⟨rfl, ?_⟩
      walk_at "ss"
      rw [str_nil]
      exact k _ (Same.refl _)
    · cases hw'
  · walk_at "ss"
    rw [lrow]
    refine for_it (walk_down (m := (pairsL ns).length)) (fun i σ' H' => ∃ (A : List Word) (u v w : Option V), σ' = [some (.ref a), some (.ref p1), some (.ref pw), u, v, w] ∧ Same H1 H' ∧ H' pw = some (.lst (wordsV A)) ∧ A.length = ns.length + (pairsL ns).length ∧ (∀ w ∈ A, w.length ≤ i) ∧ waysL ns.length (pairsL ns) = waysLoop ns.length (pairsL ns) ((pairsL ns).length - i) A)
      ⟨List.replicate (ns.length + (pairsL ns).length) [], none, none, none, rfl, s2, hw, List.length_replicate, (fun w h => by rw [(List.mem_replicate.mp h).2]; exact Nat.le_refl _), rfl⟩ (fun i σ' H' _ p => trivial) (fun i x σ' H' H3 hi p y => ?_) (fun σ' H' p => ?_)
    · obtain ⟨A, u, v, w, rfl, s3, hA, lA, bA, eA⟩ := p
      obtain ⟨rfl, rfl⟩ := y
      obtain ⟨ra, rb, hk⟩ : ∃ ra rb, (pairsL ns)[(pairsL ns).length - 1 - i]? = some (ra, rb) := ⟨_, _, List.getElem?_eq_getElem (by omega)⟩
      obtain ⟨x1, hx1, t, rfl, ht1⟩ := paired_at hRin hk
      have l := N.lt _ _ _ hk
      have hr3 := s3 _ _ hrow
      have ht3 := s3 _ _ ht1
      have hway : (A.getD (ns.length + ((pairsL ns).length - 1 - i)) []).length ≤ i := by
        rw [List.getD_eq_getElem?_getD]
        cases e : A[ns.length + ((pairsL ns).length - 1 - i)]? with
        | none => exact Nat.zero_le _
        | some x => exact bA x (List.mem_of_getElem? e)
      have np : pw ≠ p1 := Ne.symm (ne_of_none hrow hpw)
      have ntw : pw ≠ t := Ne.symm (ne_of_none ht1 hpw)
      walk_at "ss"
      rw [List.length_map, ← Int.natCast_add]
      refine w_ixL (SqL.of hA) (atI_nat (wordsV_at (by omega))) ?_
      walk_at "ss"
      rw [show Str.ofString "0" = S [48] from str_0]
      refine w_addX (by rw [List.length_singleton]; exact Nat.le_trans (show _ ≤ 100 by omega) (by decide)) ?_
      rw [S_cat]
      walk_at "ss"
      refine w_ixL (SqL.of hr3) (atI_nat hx1) ?_
      walk_at "ss"
      refine w_ixT (SqT.of ht3) at0 ?_
      refine w_setL hA (by rw [wordsV_len]; omega) ?_
      rw [wordsV_set]
      walk_at "ss"
      rw [show Str.ofString "1" = S [49] from str_1]
      refine w_addX (by rw [List.length_singleton]; exact Nat.le_trans (show _ ≤ 100 by omega) (by decide)) ?_
      rw [S_cat]
      walk_at "ss"
      refine w_ixL (SqL.of (by rw [upd_ne np.symm]; exact hr3)) (atI_nat hx1) ?_
      walk_at "ss"
      refine w_ixT (SqT.of (by rw [upd_ne ntw.symm]; exact ht3)) at1 ?_
      refine w_setL upd_same (by rw [wordsV_len, List.length_set]; omega) ?_
      rw [wordsV_set]
      have eS : waysStep ns.length (pairsL ns) ((pairsL ns).length - 1 - i) A = (A.set ra (A.getD (ns.length + ((pairsL ns).length - 1 - i)) [] ++ [48])).set rb (A.getD (ns.length + ((pairsL ns).length - 1 - i)) [] ++ [49]) := by unfold waysStep; rw [hk]
      refine ⟨waysStep ns.length (pairsL ns) ((pairsL ns).length - 1 - i) A, _, _, _, rfl, same_mut0 (same_mut0 s3 hpw) hpw, by rw [eS]; exact upd_same, by rw [waysStep_len, lA], waysStep_small bA, ?_⟩
      rw [eA, show (pairsL ns).length - i = ((pairsL ns).length - 1 - i) + 1 by omega]
      show waysLoop ns.length (pairsL ns) ((pairsL ns).length - 1 - i) (waysStep ns.length (pairsL ns) ((pairsL ns).length - 1 - i) A) = _
      rw [show (pairsL ns).length - (i + 1) = (pairsL ns).length - 1 - i by omega]
    · obtain ⟨A, u, v, w, rfl, s3, hA, lA, bA, eA⟩ := p
      rw [Nat.sub_self] at eA
      have eA' : waysL ns.length (pairsL ns) = A := eA
      walk_at "ss"
      rw [List.length_map, cutV_to, ← wordsV_take, ← eA']
      exact w_new (fun p H5 s5 hp h5 => q p H5 (s1.trans (s3.trans s5)) (s1.free (s3.free hp)) h5)
end
theorem sc_need_signs : FnScope ["book", "text", "sign"] ["book", "text"] (defScope s_need_signs) := ⟨rfl, rfl, rfl, by decide +kernel, rfl, by decide +kernel, by decide +kernel⟩
section
variable {P : Program} {w : World} {K : PySem.W.Frag} {mg : Str → Option Value} {base : Heap} {A : Adr}
def sp_need_signs (CB CS : Addr) : L2.Sp := fun vs H Q E => ∃ (b0 : Addr) (w0 : List Nat), vs = [.ref b0, .str (S w0)] ∧ (BadSg CB CS H E b0 w0 ∨ ∃ (b : Addr) (g : List Nat) (z : Nat) (cap : Int) (w : List Nat), b = b0 ∧ w = w0 ∧ BookAt CB H b g z cap ∧ (∀ c ∈ w, c ∈ g) ∧ Q .non H)
theorem u_need_signs {CB CS : Addr} {H : Hp} {Q : VK} {E : XK} {b : Addr} {g : List Nat} {z : Nat} {cap : Int} {w : List Nat} (hb : BookAt CB H b g z cap) (h : ∀ c ∈ w, c ∈ g) (q : Q .non H) : sp_need_signs CB CS [.ref b, .str (S w)] H Q E := ⟨_, _, rfl, .inr ⟨b, g, z, cap, w, rfl, rfl, hb, h, q⟩⟩
theorem u_need_signsX {CB CS : Addr} {H : Hp} {Q : VK} {E : XK} {b : Addr} {w : List Nat} (h : BadSg CB CS H E b w) : sp_need_signs CB CS [.ref b, .str (S w)] H Q E := ⟨b, w, rfl, .inl h⟩

theorem ok_need_signs (T : Txt K mg A) : FnOk P w K mg base (L2.CX P w) 1 A.f_need_signs A.d_need_signs ["book", "text"] (sp_need_signs A.C_Book A.C_BadSign) := by
  refine T.F_need_signs.okX sc_need_signs (fun vs H Q E h => by first | (obtain ⟨rfl, _⟩ := h; rfl) | (obtain ⟨_, rfl, _⟩ := h; rfl) | (obtain ⟨_, _, rfl, _⟩ := h; rfl) | (obtain ⟨_, _, _, rfl, _⟩ := h; rfl) | (obtain ⟨_, _, _, _, rfl, _⟩ := h; rfl) | (obtain ⟨_, _, _, _, _, rfl, _⟩ := h; rfl) | (obtain ⟨_, _, _, _, _, _, rfl, _⟩ := h; rfl) | (obtain ⟨_, _, _, _, _, _, _, rfl, _⟩ := h; rfl) | (obtain ⟨_, _, _, _, _, _, _, _, rfl, _⟩ := h; rfl) | (obtain ⟨_, _, _, _, _, _, _, _, _, rfl, _⟩ := h; rfl) | (obtain ⟨_, _, _, _, _, _, _, _, _, _, rfl, _⟩ := h; rfl) | (obtain ⟨_, _, _, _, _, _, _, _, _, _, _, rfl, _⟩ := h; rfl) | (obtain ⟨_, _, _, _, _, _, _, _, _, _, _, _, rfl, _⟩ := h; rfl) | (obtain ⟨_, _, _, _, _, _, _, _, _, _, _, _, _, rfl, _⟩ := h; rfl) | (obtain ⟨_, _, _, _, _, _, _, _, _, _, _, _, _, _, rfl, _⟩ := h; rfl) | (obtain ⟨_, _, _, _, _, _, _, _, _, _, _, _, _, _, _, rfl, _⟩ := h; rfl) | (obtain ⟨_, _, _, _, _, _, _, _, _, _, _, _, _, _, _, _, rfl, _⟩ := h; rfl) | (obtain ⟨_, _, _, _, _, _, _, _, _, _, _, _, _, _, _, _, _, rfl, _⟩ := h; rfl) | (obtain ⟨_, _, _, _, _, _, _, _, _, _, _, _, _, _, _, _, _, _, rfl, _⟩ := h; rfl) | (obtain ⟨_, _, _, _, _, _, _, _, _, _, _, _, _, _, _, _, _, _, _, rfl, _⟩ := h; rfl) | (obtain ⟨_, _, _, _, _, _, _, _, _, _, _, _, _, _, _, _, _, _, _, _, rfl, _⟩ := h; rfl) | (obtain ⟨_, _, _, _, _, _, _, _, _, _, _, _, _, _, _, _, _, _, _, _, _, rfl, _⟩ := h; rfl)) (fun cdv Ar outer s H vs Q E hr h => ?_)
  obtain ⟨b0, w0, rfl, h⟩ := h
  have na_Book_signs := T.na_Book_signs
  have cl_Book := T.cl_Book
  refine ⟨_, (pss_one (ps_for (passes_of rfl) rfl (pi_str (pv 1)) (pg_name (i := 2) sc_need_signs.nd rfl (Or.inl rfl))
      (pss_one (ps_if (pt_cmpR op_notIn_sign (pv 2) (pe_fldK (K := K) (pv 0)) (by rfl)) (pss_one (ps_raiseX (E := E) rfl T.x_BadSign T.g_BadSign rfl))
      pss_nil)))), ?_⟩
  refine w_start (σ' := [some _, some _, none]) rfl ?_
  try dsimp only [cxOf, Cx.nox, Cx.wish]
  rcases h with ⟨g, z, cap, ⟨db, hb⟩, bk, nh, bad⟩ | ⟨b, g, z, cap, w, rfl, rfl, ⟨db, hb⟩, h, q⟩
  · walk_at "ss"
    refine for_it walk_S (fun i σ' H' => (∃ u, σ' = [some (.ref b0), some (.str (S w0)), u]) ∧ H = H' ∧ ∀ j d, j < i → w0[j]? = some d → d ∈ g) ⟨⟨_, rfl⟩, rfl, fun j d hj _ => absurd hj (Nat.not_lt_zero j)⟩ (fun _ _ _ _ _ => trivial) (fun i x σ' H' H3 hi p y => ?_) (fun σ' H' p => ?_)
    · obtain ⟨rfl, c, hc, rfl⟩ := y
      obtain ⟨⟨u, rfl⟩, rfl, hj⟩ := p
      walk_at "ss"
      rw [in_S]
      refine w_iteN (fun h => ?_) (fun h => ?_)
      · walk_at "ss"
        exact bad H (Same.refl _)
      · walk_at "ss"
        refine ⟨⟨_, rfl⟩, rfl, fun j d hlt hd => ?_⟩
        rcases Nat.lt_or_eq_of_le (Nat.le_of_lt_succ hlt) with l | l
        · exact hj j d l hd
        · subst l
          rw [hc] at hd
          cases (Option.some.inj hd)
          exact h
    · obtain ⟨⟨u, rfl⟩, rfl, hj⟩ := p
      exact (nh fun c hc => by
        obtain ⟨i, hi, e⟩ := List.getElem_of_mem hc
        exact hj i c hi (by rw [List.getElem?_eq_getElem hi, e])).elim
  walk_at "ss"
  refine for_it walk_S (fun i σ' H' => (∃ u, σ' = [some (.ref b), some (.str (S w)), u]) ∧ H = H') ⟨⟨_, rfl⟩, rfl⟩ (fun _ _ _ _ _ => trivial) (fun i x σ' H' H3 hi p y => ?_) (fun σ' H' p => ?_)
  · obtain ⟨rfl, c, hc, rfl⟩ := y
    obtain ⟨⟨u, rfl⟩, rfl⟩ := p
    have hm := h c (List.mem_of_getElem? hc)
    walk_at "ss"
    refine w_iteKF (by rw [in_S, decide_eq_true hm]; rfl) ?_
    walk_at "ss"
    exact ⟨⟨_, rfl⟩, rfl⟩
  · obtain ⟨⟨u, rfl⟩, rfl⟩ := p
    walk_at "ss"
    exact q
end
theorem sc_Learner_init : FnScope ["self", "book", "sign"] ["self", "book"] (defScope s_Learner_init) := ⟨rfl, rfl, rfl, by decide +kernel, rfl, by decide +kernel, by decide +kernel⟩
section
variable {P : Program} {w : World} {K : PySem.W.Frag} {mg : Str → Option Value} {base : Heap} {A : Adr}
def sp_Learner_init (CB C : Addr) : L2.Sp := fun vs H Q _ => ∃ (p dx b : Addr) (g : List Nat) (z : Nat) (cap : Int), vs = [.ref p, .ref b] ∧ H p = some (.ins C dx []) ∧ BookAt CB H b g z cap ∧ BookOk g z cap ∧ b ≠ p ∧ ∀ H', SameP p H H' → LearnAt C H' p b (onesL g) [] → Q .non H'
/-- Learner(book) -/
theorem u_Learner {CB C : Addr} {H : Hp} {Q : VK} {E : XK} {b : Addr} {g : List Nat} {z : Nat} {cap : Int} (hb : BookAt CB H b g z cap) (k : BookOk g z cap) (q : ∀ p H', Same H H' → H p = none → LearnAt C H' p b (onesL g) [] → Q (.ref p) H') : MadeQ C (sp_Learner_init CB C) E [.ref b] Q H :=
  w_made fun x dx H2 s2 hx h2 => ⟨x, dx, b, g, z, cap, rfl, h2, hb.same s2, k, (let ⟨_, e⟩ := hb; ne_of_none e hx), fun H' s' k => ⟨rfl, q x H' (s'.same s2 hx) hx k⟩⟩
theorem ok_Learner_init (T : Txt K mg A) : FnOk P w K mg base CX0 6 A.f_Learner_init A.d_Learner_init ["self", "book"] (sp_Learner_init A.C_Book A.C_Learner) := by
  have G_codes := ok_codes (P := P) (w := w) (base := base) T
  refine T.F_Learner_init.ok sc_Learner_init (fun vs H Q E h => by first | (obtain ⟨rfl, _⟩ := h; rfl) | (obtain ⟨_, rfl, _⟩ := h; rfl) | (obtain ⟨_, _, rfl, _⟩ := h; rfl) | (obtain ⟨_, _, _, rfl, _⟩ := h; rfl) | (obtain ⟨_, _, _, _, rfl, _⟩ := h; rfl) | (obtain ⟨_, _, _, _, _, rfl, _⟩ := h; rfl) | (obtain ⟨_, _, _, _, _, _, rfl, _⟩ := h; rfl) | (obtain ⟨_, _, _, _, _, _, _, rfl, _⟩ := h; rfl) | (obtain ⟨_, _, _, _, _, _, _, _, rfl, _⟩ := h; rfl) | (obtain ⟨_, _, _, _, _, _, _, _, _, rfl, _⟩ := h; rfl) | (obtain ⟨_, _, _, _, _, _, _, _, _, _, rfl, _⟩ := h; rfl) | (obtain ⟨_, _, _, _, _, _, _, _, _, _, _, rfl, _⟩ := h; rfl) | (obtain ⟨_, _, _, _, _, _, _, _, _, _, _, _, rfl, _⟩ := h; rfl) | (obtain ⟨_, _, _, _, _, _, _, _, _, _, _, _, _, rfl, _⟩ := h; rfl) | (obtain ⟨_, _, _, _, _, _, _, _, _, _, _, _, _, _, rfl, _⟩ := h; rfl) | (obtain ⟨_, _, _, _, _, _, _, _, _, _, _, _, _, _, _, rfl, _⟩ := h; rfl) | (obtain ⟨_, _, _, _, _, _, _, _, _, _, _, _, _, _, _, _, rfl, _⟩ := h; rfl) | (obtain ⟨_, _, _, _, _, _, _, _, _, _, _, _, _, _, _, _, _, rfl, _⟩ := h; rfl) | (obtain ⟨_, _, _, _, _, _, _, _, _, _, _, _, _, _, _, _, _, _, rfl, _⟩ := h; rfl) | (obtain ⟨_, _, _, _, _, _, _, _, _, _, _, _, _, _, _, _, _, _, _, rfl, _⟩ := h; rfl) | (obtain ⟨_, _, _, _, _, _, _, _, _, _, _, _, _, _, _, _, _, _, _, _, rfl, _⟩ := h; rfl) | (obtain ⟨_, _, _, _, _, _, _, _, _, _, _, _, _, _, _, _, _, _, _, _, _, rfl, _⟩ := h; rfl)) (fun cdv Ar outer s H vs Q E hr h => ?_)
  obtain ⟨p, dx, b, g, z, cap, rfl, hp, ⟨db, hb⟩, bk, nb, q⟩ := h
  have hr_codes := hr.mono (by decide : 5 ≤ 5)
  have na_Book_signs := T.na_Book_signs
  have na_Learner_book := T.na_Learner_book
  have na_Learner_shares := T.na_Learner_shares
  have na_Learner_waits := T.na_Learner_waits
  have na_Learner_words := T.na_Learner_words
  have cl_Book := T.cl_Book
  have cl_Learner := T.cl_Learner
  refine ⟨_, (pss_cons (ps_fldK (K := K) (pv 0) (pv 1))
      (pss_cons (ps_fldK (K := K) (pv 0) (pe_lc (own := [("sign", 2)]) (g := gName 2) rfl sc_Learner_init.nd (pi_str (pe_fldK (K := K) (pv 1))) (blkOk_by (own := [("sign", 2)]) (N := ["self", "book", "sign"]) (sc := defScope s_Learner_init) (by decide +kernel)) (fun _ _ _ _ _ => (pg_name (i := 2) sc_Learner_init.nd rfl (Or.inl rfl))) (fun _ _ _ _ _ => pts_nil) (fun _ _ _ _ _ => pe_int)))
      (pss_cons (ps_fldK (K := K) (pv 0) (pe_call G_codes hr_codes rfl T.g_codes T.F_codes.kp T.b_codes .nil pass0 (pa_cons (pe_fldK (K := K) (pv 0)) pa_nil)))
      (pss_one (ps_fldK (K := K) (pv 0) pe_str))))), ?_⟩
  refine w_start (σ' := [some _, some _, none]) rfl ?_
  try dsimp only [cxOf, Cx.nox, Cx.wish]
  walk_at "ss"
  walk_at "put"
  intro H1 s1 h1
  have hb1 := s1.at hb nb
  walk_at "ss"
  refine lc_pure walk_S ((onesL g).map V.int) (by rw [List.length_map, ones_len]) (Nat.le_trans bk.few (by decide)) (fun _ _ => trivial) (fun i x y H2 H3 R hi hy s2 hx k => ?_) (fun p1 H2 s2 hp1 hl1 => ?_)
  · obtain ⟨rfl, c, hc, rfl⟩ := hx
    obtain ⟨n, hn, rfl⟩ := map_int hy
    unfold onesL at hn
    rw [List.getElem?_map, hc] at hn
    cases (Option.some.inj hn)
    walk_at "ss"
    refine ⟨rfl, ?_⟩
    walk_at "ss"
    exact k _ (Same.refl _)
  walk_at "ss"
  walk_at "put"
  intro H3 s3 h3
  have hl3 := s3.at' hl1 (s2 _ _ h1) (by intro q; cases q)
  walk_at "ss"
  have gd := (ones_ok bk).good
  refine u_codes hl3 gd (fun p2 H4 s4 hp2 hl4 => ?_)
  walk_at "ss"
  walk_at "put"
  intro H5 s5 h5
  walk_at "ss"
  walk_at "put"
  intro H6 s6 h6
  walk_at "ss"
  have h4p := s4 _ _ h3
  refine q _ (s1.trans (s2.toP.trans (s3.trans (s4.toP.trans (s5.trans s6))))) ⟨dx, p1, p2, ?_, ?_, ?_⟩
  · rw [h6, str_nil]
  · exact s6.at' (s5.at' (s4 _ _ hl3) h4p (by intro q; cases q)) h5 (by intro q; cases q)
  · exact s6.at' (s5.at' hl4 h4p (by intro q; cases q)) h5 (by intro q; cases q)
end
theorem sc_Learner_took : FnScope ["self", "sign"] ["self", "sign"] (defScope s_Learner_took) := ⟨rfl, rfl, rfl, by decide +kernel, rfl, by decide +kernel, by decide +kernel⟩
section
variable {P : Program} {w : World} {K : PySem.W.Frag} {mg : Str → Option Value} {base : Heap} {A : Adr}
def sp_Learner_took (CB C : Addr) : L2.Sp := fun vs H Q _ => ∃ (p b : Addr) (g : List Nat) (z : Nat) (cap : Int) (st : List Int × List Nat) (c : Nat), vs = [.ref p, .str (S [c])] ∧ LearnAt C H p b st.1 st.2 ∧ BookAt CB H b g z cap ∧ BookOk g z cap ∧ StOk g z st ∧ b ≠ p ∧
  ∀ H', SameP p H H' → LearnAt C H' p b (tookS g z cap st c).1 (tookS g z cap st c).2 → Q .non H'
theorem u_took {CB C : Addr} {H : Hp} {Q : VK} {E : XK} {p b : Addr} {g : List Nat} {z : Nat} {cap : Int} {st : List Int × List Nat} {c : Nat} (hl : LearnAt C H p b st.1 st.2) (hb : BookAt CB H b g z cap) (bk : BookOk g z cap) (ok : StOk g z st) (n : b ≠ p)
    (q : ∀ H', SameP p H H' → LearnAt C H' p b (tookS g z cap st c).1 (tookS g z cap st c).2 → Q .non H') : sp_Learner_took CB C [.ref p, .str (S [c])] H Q E := ⟨p, b, g, z, cap, st, c, rfl, hl, hb, bk, ok, n, q⟩
theorem ok_Learner_took (T : Txt K mg A) : FnOk P w K mg base CX0 6 A.f_Learner_took A.d_Learner_took ["self", "sign"] (sp_Learner_took A.C_Book A.C_Learner) := by
  have G_codes := ok_codes (P := P) (w := w) (base := base) T
  have G_counted := ok_counted (P := P) (w := w) (base := base) T
  have G_learnt := ok_learnt (P := P) (w := w) (base := base) T
  refine T.F_Learner_took.ok sc_Learner_took (fun vs H Q E h => by first | (obtain ⟨rfl, _⟩ := h; rfl) | (obtain ⟨_, rfl, _⟩ := h; rfl) | (obtain ⟨_, _, rfl, _⟩ := h; rfl) | (obtain ⟨_, _, _, rfl, _⟩ := h; rfl) | (obtain ⟨_, _, _, _, rfl, _⟩ := h; rfl) | (obtain ⟨_, _, _, _, _, rfl, _⟩ := h; rfl) | (obtain ⟨_, _, _, _, _, _, rfl, _⟩ := h; rfl) | (obtain ⟨_, _, _, _, _, _, _, rfl, _⟩ := h; rfl) | (obtain ⟨_, _, _, _, _, _, _, _, rfl, _⟩ := h; rfl) | (obtain ⟨_, _, _, _, _, _, _, _, _, rfl, _⟩ := h; rfl) | (obtain ⟨_, _, _, _, _, _, _, _, _, _, rfl, _⟩ := h; rfl) | (obtain ⟨_, _, _, _, _, _, _, _, _, _, _, rfl, _⟩ := h; rfl) | (obtain ⟨_, _, _, _, _, _, _, _, _, _, _, _, rfl, _⟩ := h; rfl) | (obtain ⟨_, _, _, _, _, _, _, _, _, _, _, _, _, rfl, _⟩ := h; rfl) | (obtain ⟨_, _, _, _, _, _, _, _, _, _, _, _, _, _, rfl, _⟩ := h; rfl) | (obtain ⟨_, _, _, _, _, _, _, _, _, _, _, _, _, _, _, rfl, _⟩ := h; rfl) | (obtain ⟨_, _, _, _, _, _, _, _, _, _, _, _, _, _, _, _, rfl, _⟩ := h; rfl) | (obtain ⟨_, _, _, _, _, _, _, _, _, _, _, _, _, _, _, _, _, rfl, _⟩ := h; rfl) | (obtain ⟨_, _, _, _, _, _, _, _, _, _, _, _, _, _, _, _, _, _, rfl, _⟩ := h; rfl) | (obtain ⟨_, _, _, _, _, _, _, _, _, _, _, _, _, _, _, _, _, _, _, rfl, _⟩ := h; rfl) | (obtain ⟨_, _, _, _, _, _, _, _, _, _, _, _, _, _, _, _, _, _, _, _, rfl, _⟩ := h; rfl) | (obtain ⟨_, _, _, _, _, _, _, _, _, _, _, _, _, _, _, _, _, _, _, _, _, rfl, _⟩ := h; rfl)) (fun cdv Ar outer s H vs Q E hr h => ?_)
  obtain ⟨p, b, g, z, cap, ⟨ns, wt⟩, c, rfl, ⟨dx, sa, wa, hp, hs, hw⟩, ⟨db, hb⟩, bk, ok, nb, q⟩ := h
  have hr_codes := hr.mono (by decide : 5 ≤ 5)
  have hr_counted := hr.mono (by decide : 1 ≤ 5)
  have hr_learnt := hr.mono (by decide : 4 ≤ 5)
  have na_Book_cap := T.na_Book_cap
  have na_Book_signs := T.na_Book_signs
  have na_Book_size := T.na_Book_size
  have na_Learner_book := T.na_Learner_book
  have na_Learner_shares := T.na_Learner_shares
  have na_Learner_waits := T.na_Learner_waits
  have na_Learner_words := T.na_Learner_words
  have cl_Book := T.cl_Book
  have cl_Learner := T.cl_Learner
  refine ⟨_, (pss_cons (ps_fldK (K := K) (pv 0) (pe_op op_add_str (pe_fldK (K := K) (pv 0)) (pv 1)))
      (pss_one (ps_if (pt_cmpR op_eq (pe_callB call_len_str (by rfl) T.n_len PySem.boot_len (pa_cons (pe_fldK (K := K) (pv 0)) pa_nil)) (pe_fldK (K := K) (pe_fldK (K := K) (pv 0))) (nomark _)) (pss_cons (ps_fldK (K := K) (pv 0) (pe_call G_learnt hr_learnt rfl T.g_learnt T.F_learnt.kp T.b_learnt .nil pass0 (pa_cons (pe_fldK (K := K) (pv 0)) (pa_cons (pe_call G_counted hr_counted rfl T.g_counted T.F_counted.kp T.b_counted .nil pass0 (pa_cons (pe_fldK (K := K) (pe_fldK (K := K) (pv 0))) (pa_cons (pe_fldK (K := K) (pv 0)) pa_nil))) (pa_cons (pe_fldK (K := K) (pe_fldK (K := K) (pv 0))) pa_nil)))))
      (pss_cons (ps_fldK (K := K) (pv 0) (pe_call G_codes hr_codes rfl T.g_codes T.F_codes.kp T.b_codes .nil pass0 (pa_cons (pe_fldK (K := K) (pv 0)) pa_nil)))
      (pss_one (ps_fldK (K := K) (pv 0) pe_str))))
      pss_nil))), ?_⟩
  refine w_start (σ' := [some _, some _]) rfl ?_
  try dsimp only [cxOf, Cx.nox, Cx.wish]
  dsimp only at hp hs hw
  have z2 := bk.z2
  have wz : wt.length < z := ok.wait
  have ln : ns.length = g.length := ok.len
  have lw : (wt ++ [c]).length = wt.length + 1 := by rw [List.length_append, List.length_singleton]
  walk_at "ss"
  refine w_addX (by rw [List.length_singleton]; exact Nat.le_trans (show _ ≤ 100 by omega) (by decide)) ?_
  rw [S_cat]
  walk_at "ss"
  walk_at "put"
  intro H1 s1 h1
  have hb1 := s1.at hb nb
  have hs1 := s1.at' hs hp (by intro q; cases q)
  have hw1 := s1.at' hw hp (by intro q; cases q)
  walk_at "ss"
  refine w_lenX (by rw [lw]; exact Nat.le_trans (show _ ≤ 100 by omega) (by decide)) ?_
  rw [S_len]
  walk_at "ss"
  refine w_iteI (fun e => ?_) (fun e => ?_)
  · have e' : (wt ++ [c]).length = z := by omega
    have eT : tookS g z cap (ns, wt) c = (learntL ns (countsL g (wt ++ [c])) cap, []) := by unfold tookS; rw [if_pos e']
    rw [eT] at q
    walk_at "ss"
    refine u_counted (Nat.le_trans bk.few (by decide)) (fun pc H2 s2 hpc hc => ?_)
    have hb2 := s2 _ _ hb1
    have gl : GoodL ns (countsL g (wt ++ [c])) cap := ⟨ok.good, by rw [countsL_len, ln], fun n hn => by
      have := counts_bounds _ _ n hn
      unfold mostShare
      omega, by rw [ln]; exact bk.c1, bk.c2⟩
    walk_at "ss"
    refine u_learnt (s2 _ _ hs1) hc gl (fun pn H3 s3 hpn hn => ?_)
    have h3 := s3 _ _ (s2 _ _ h1)
    walk_at "ss"
    walk_at "put"
    intro H4 s4 h4
    have hn4 := s4.at' hn h3 (by intro q; cases q)
    walk_at "ss"
    have gd := (learnt_good gl.sh gl.len (fun n hn => (gl.each n hn).1) gl.lo gl.hi).1
    refine u_codes hn4 gd (fun pw H5 s5 hpw h5 => ?_)
    have h45 := s5 _ _ h4
    walk_at "ss"
    walk_at "put"
    intro H6 s6 h6
    walk_at "ss"
    walk_at "put"
    intro H7 s7 h7
    walk_at "ss"
    refine q _ (s1.trans (s2.toP.trans (s3.toP.trans (s4.trans (s5.toP.trans (s6.trans s7)))))) ⟨dx, pn, pw, by rw [h7, str_nil], ?_, ?_⟩
    · exact s7.at' (s6.at' (s5 _ _ hn4) h45 (by intro q; cases q)) h6 (by intro q; cases q)
    · exact s7.at' (s6.at' h5 h45 (by intro q; cases q)) h6 (by intro q; cases q)
  · have e' : ¬ (wt ++ [c]).length = z := by omega
    have eT : tookS g z cap (ns, wt) c = (ns, wt ++ [c]) := by unfold tookS; rw [if_neg e']
    rw [eT] at q
    walk_at "ss"
    exact q _ s1 ⟨dx, sa, wa, h1, hs1, hw1⟩
end
theorem sc_Learner_copied : FnScope ["self", "found"] ["self"] (defScope s_Learner_copied) := ⟨rfl, rfl, rfl, by decide +kernel, rfl, by decide +kernel, by decide +kernel⟩
section
variable {P : Program} {w : World} {K : PySem.W.Frag} {mg : Str → Option Value} {base : Heap} {A : Adr}
def sp_Learner_copied (CB C : Addr) : L2.Sp := fun vs H Q _ => ∃ (p b : Addr) (g : List Nat) (z : Nat) (cap : Int) (ns : List Int) (wt : List Nat), vs = [.ref p] ∧ LearnAt C H p b ns wt ∧ BookAt CB H b g z cap ∧ BookOk g z cap ∧
  ∀ p' H', Same H H' → H p' = none → LearnAt C H' p' b ns wt → Q (.ref p') H'
theorem u_copied {CB C : Addr} {H : Hp} {Q : VK} {E : XK} {p b : Addr} {g : List Nat} {z : Nat} {cap : Int} {ns : List Int} {wt : List Nat} (hl : LearnAt C H p b ns wt) (hb : BookAt CB H b g z cap) (bk : BookOk g z cap) (q : ∀ p' H', Same H H' → H p' = none → LearnAt C H' p' b ns wt → Q (.ref p') H') :
    sp_Learner_copied CB C [.ref p] H Q E := ⟨p, b, g, z, cap, ns, wt, rfl, hl, hb, bk, q⟩
theorem ok_Learner_copied (T : Txt K mg A) : FnOk P w K mg base CX0 8 A.f_Learner_copied A.d_Learner_copied ["self"] (sp_Learner_copied A.C_Book A.C_Learner) := by
  have G_Learner_init := ok_Learner_init (P := P) (w := w) (base := base) T
  refine T.F_Learner_copied.ok sc_Learner_copied (fun vs H Q E h => by first | (obtain ⟨rfl, _⟩ := h; rfl) | (obtain ⟨_, rfl, _⟩ := h; rfl) | (obtain ⟨_, _, rfl, _⟩ := h; rfl) | (obtain ⟨_, _, _, rfl, _⟩ := h; rfl) | (obtain ⟨_, _, _, _, rfl, _⟩ := h; rfl) | (obtain ⟨_, _, _, _, _, rfl, _⟩ := h; rfl) | (obtain ⟨_, _, _, _, _, _, rfl, _⟩ := h; rfl) | (obtain ⟨_, _, _, _, _, _, _, rfl, _⟩ := h; rfl) | (obtain ⟨_, _, _, _, _, _, _, _, rfl, _⟩ := h; rfl) | (obtain ⟨_, _, _, _, _, _, _, _, _, rfl, _⟩ := h; rfl) | (obtain ⟨_, _, _, _, _, _, _, _, _, _, rfl, _⟩ := h; rfl) | (obtain ⟨_, _, _, _, _, _, _, _, _, _, _, rfl, _⟩ := h; rfl) | (obtain ⟨_, _, _, _, _, _, _, _, _, _, _, _, rfl, _⟩ := h; rfl) | (obtain ⟨_, _, _, _, _, _, _, _, _, _, _, _, _, rfl, _⟩ := h; rfl) | (obtain ⟨_, _, _, _, _, _, _, _, _, _, _, _, _, _, rfl, _⟩ := h; rfl) | (obtain ⟨_, _, _, _, _, _, _, _, _, _, _, _, _, _, _, rfl, _⟩ := h; rfl) | (obtain ⟨_, _, _, _, _, _, _, _, _, _, _, _, _, _, _, _, rfl, _⟩ := h; rfl) | (obtain ⟨_, _, _, _, _, _, _, _, _, _, _, _, _, _, _, _, _, rfl, _⟩ := h; rfl) | (obtain ⟨_, _, _, _, _, _, _, _, _, _, _, _, _, _, _, _, _, _, rfl, _⟩ := h; rfl) | (obtain ⟨_, _, _, _, _, _, _, _, _, _, _, _, _, _, _, _, _, _, _, rfl, _⟩ := h; rfl) | (obtain ⟨_, _, _, _, _, _, _, _, _, _, _, _, _, _, _, _, _, _, _, _, rfl, _⟩ := h; rfl) | (obtain ⟨_, _, _, _, _, _, _, _, _, _, _, _, _, _, _, _, _, _, _, _, _, rfl, _⟩ := h; rfl)) (fun cdv Ar outer s H vs Q E hr h => ?_)
  obtain ⟨p, b, g, z, cap, ns, wt, rfl, ⟨dx, sa, wa, hp, hs, hw⟩, hb, bk, q⟩ := h
  have hm_Learner_init := hr.mono (by decide : 6 + 1 ≤ 7)
  have na_Learner_book := T.na_Learner_book
  have na_Learner_shares := T.na_Learner_shares
  have na_Learner_waits := T.na_Learner_waits
  have na_Learner_words := T.na_Learner_words
  have cl_Learner := T.cl_Learner
  refine ⟨_, (pss_cons (ps_set (i := 1) sc_Learner_copied.nd rfl (Or.inl rfl) (pe_make T.mk_Learner G_Learner_init hm_Learner_init rfl T.g_Learner T.b_Learner_init .nil pass0 (pa_cons (pe_fldK (K := K) (pv 0)) pa_nil)))
      (pss_cons (ps_fldK (K := K) (pv 1) (pe_fldK (K := K) (pv 0)))
      (pss_cons (ps_fldK (K := K) (pv 1) (pe_fldK (K := K) (pv 0)))
      (pss_cons (ps_fldK (K := K) (pv 1) (pe_fldK (K := K) (pv 0)))
      (pss_one (ps_ret (pv 1))))))), ?_⟩
  refine w_start (σ' := [some _, none]) rfl ?_
  try dsimp only [cxOf, Cx.nox, Cx.wish]
  walk_at "ss"
  refine u_Learner hb bk (fun p' H1 s1 hp' hl => ?_)
  have npp : p ≠ p' := ne_of_none hp hp'
  obtain ⟨d2, s2a, w2a, h2, _, _⟩ := id hl.ex
  have hp1 := s1 _ _ hp
  have hs1 := s1 _ _ hs
  have hw1 := s1 _ _ hw
  walk_at "ss"
  walk_at "put"
  intro H2 t2 h22
  have hp2 := t2.at hp1 npp
  walk_at "ss"
  walk_at "put"
  intro H3 t3 h33
  have hp3 := t3.at hp2 npp
  walk_at "ss"
  walk_at "put"
  intro H4 t4 h44
  walk_at "ss"
  have tt := t2.trans (t3.trans t4)
  refine q p' _ (tt.same s1 hp') hp' ⟨d2, sa, wa, h44, tt.at' hs1 h2 (by intro q; cases q), tt.at' hw1 h2 (by intro q; cases q)⟩
end
theorem sc_Packer_init : FnScope ["self", "book"] ["self", "book"] (defScope s_Packer_init) := ⟨rfl, rfl, rfl, by decide +kernel, rfl, by decide +kernel, by decide +kernel⟩
section
variable {P : Program} {w : World} {K : PySem.W.Frag} {mg : Str → Option Value} {base : Heap} {A : Adr}
def sp_Packer_init (CB CL C : Addr) : L2.Sp := fun vs H Q _ => ∃ (k dx b : Addr) (g : List Nat) (z : Nat) (cap : Int), vs = [.ref k, .ref b] ∧ H k = some (.ins C dx []) ∧ BookAt CB H b g z cap ∧ BookOk g z cap ∧ b ≠ k ∧ ∀ H' p, SameP k H H' → H p = none → PackAt C H' k p b → LearnAt CL H' p b (onesL g) [] → Q .non H'
/-- Packer(book) -/
theorem u_Packer {CB CL C : Addr} {H : Hp} {Q : VK} {E : XK} {b : Addr} {g : List Nat} {z : Nat} {cap : Int} (hb : BookAt CB H b g z cap) (bk : BookOk g z cap) (q : ∀ k p H', Same H H' → H k = none → H p = none → k ≠ p → PackAt C H' k p b → LearnAt CL H' p b (onesL g) [] → Q (.ref k) H') : MadeQ C (sp_Packer_init CB CL C) E [.ref b] Q H :=
  w_made fun x dx H2 s2 hx h2 => ⟨x, dx, b, g, z, cap, rfl, h2, hb.same s2, bk, (let ⟨_, e⟩ := hb; ne_of_none e hx), fun H' p s' hp k1 k2 => ⟨rfl, q x p H' (s'.same s2 hx) hx (s2.free hp) (ne_of_none h2 hp) k1 k2⟩⟩
theorem ok_Packer_init (T : Txt K mg A) : FnOk P w K mg base CX0 8 A.f_Packer_init A.d_Packer_init ["self", "book"] (sp_Packer_init A.C_Book A.C_Learner A.C_Packer) := by
  have G_Learner_init := ok_Learner_init (P := P) (w := w) (base := base) T
  refine T.F_Packer_init.ok sc_Packer_init (fun vs H Q E h => by first | (obtain ⟨rfl, _⟩ := h; rfl) | (obtain ⟨_, rfl, _⟩ := h; rfl) | (obtain ⟨_, _, rfl, _⟩ := h; rfl) | (obtain ⟨_, _, _, rfl, _⟩ := h; rfl) | (obtain ⟨_, _, _, _, rfl, _⟩ := h; rfl) | (obtain ⟨_, _, _, _, _, rfl, _⟩ := h; rfl) | (obtain ⟨_, _, _, _, _, _, rfl, _⟩ := h; rfl) | (obtain ⟨_, _, _, _, _, _, _, rfl, _⟩ := h; rfl) | (obtain ⟨_, _, _, _, _, _, _, _, rfl, _⟩ := h; rfl) | (obtain ⟨_, _, _, _, _, _, _, _, _, rfl, _⟩ := h; rfl) | (obtain ⟨_, _, _, _, _, _, _, _, _, _, rfl, _⟩ := h; rfl) | (obtain ⟨_, _, _, _, _, _, _, _, _, _, _, rfl, _⟩ := h; rfl) | (obtain ⟨_, _, _, _, _, _, _, _, _, _, _, _, rfl, _⟩ := h; rfl) | (obtain ⟨_, _, _, _, _, _, _, _, _, _, _, _, _, rfl, _⟩ := h; rfl) | (obtain ⟨_, _, _, _, _, _, _, _, _, _, _, _, _, _, rfl, _⟩ := h; rfl) | (obtain ⟨_, _, _, _, _, _, _, _, _, _, _, _, _, _, _, rfl, _⟩ := h; rfl) | (obtain ⟨_, _, _, _, _, _, _, _, _, _, _, _, _, _, _, _, rfl, _⟩ := h; rfl) | (obtain ⟨_, _, _, _, _, _, _, _, _, _, _, _, _, _, _, _, _, rfl, _⟩ := h; rfl) | (obtain ⟨_, _, _, _, _, _, _, _, _, _, _, _, _, _, _, _, _, _, rfl, _⟩ := h; rfl) | (obtain ⟨_, _, _, _, _, _, _, _, _, _, _, _, _, _, _, _, _, _, _, rfl, _⟩ := h; rfl) | (obtain ⟨_, _, _, _, _, _, _, _, _, _, _, _, _, _, _, _, _, _, _, _, rfl, _⟩ := h; rfl) | (obtain ⟨_, _, _, _, _, _, _, _, _, _, _, _, _, _, _, _, _, _, _, _, _, rfl, _⟩ := h; rfl)) (fun cdv Ar outer s H vs Q E hr h => ?_)
  obtain ⟨k, dx, b, g, z, cap, rfl, hk, ⟨db, hb⟩, bk, nb, q⟩ := h
  have hm_Learner_init := hr.mono (by decide : 6 + 1 ≤ 7)
  have na_Packer_book := T.na_Packer_book
  have na_Packer_learner := T.na_Packer_learner
  have cl_Learner := T.cl_Learner
  have cl_Packer := T.cl_Packer
  refine ⟨_, (pss_cons (ps_fldK (K := K) (pv 0) (pv 1))
      (pss_one (ps_fldK (K := K) (pv 0) (pe_make T.mk_Learner G_Learner_init hm_Learner_init rfl T.g_Learner T.b_Learner_init .nil pass0 (pa_cons (pv 1) pa_nil))))), ?_⟩
  refine w_start (σ' := [some _, some _]) rfl ?_
  try dsimp only [cxOf, Cx.nox, Cx.wish]
  walk_at "ss"
  walk_at "put"
  intro H1 s1 h1
  have hb1 := s1.at hb nb
  walk_at "ss"
  refine u_Learner (⟨db, hb1⟩ : BookAt A.C_Book H1 b g z cap) bk (fun p H2 s2 hp hl => ?_)
  have h2 := s2 _ _ h1
  walk_at "ss"
  walk_at "put"
  intro H3 s3 h3
  walk_at "ss"
  have nkp : k ≠ p := ne_of_none h1 hp
  refine q H3 p (s1.trans (s2.toP.trans s3)) (s1.free hp nkp.symm) ⟨dx, h3⟩ (hl.but s3 h2 nkp.symm)
end
theorem sc_Packer_put : FnScope ["self", "part", "found", "sign"] ["self", "part"] (defScope s_Packer_put) := ⟨rfl, rfl, rfl, by decide +kernel, rfl, by decide +kernel, by decide +kernel⟩
section
variable {P : Program} {w : World} {K : PySem.W.Frag} {mg : Str → Option Value} {base : Heap} {A : Adr}
def sp_Packer_put (CB CL C CS : Addr) : L2.Sp := fun vs H Q E => ∃ (k0 : Addr) (w0 : List Nat), vs = [.ref k0, .str (S w0)] ∧ ((∃ p0 b0, PackAt C H k0 p0 b0 ∧ BadSg CB CS H E b0 w0) ∨ ∃ (k p b : Addr) (g : List Nat) (z : Nat) (cap : Int) (st : List Int × List Nat) (w : List Nat), k = k0 ∧ w = w0 ∧ PackAt C H k p b ∧ LearnAt CL H p b st.1 st.2 ∧ BookAt CB H b g z cap ∧ BookOk g z cap ∧ StOk g z st ∧ b ≠ p ∧ k ≠ p ∧ (∀ c ∈ w, c ∈ g) ∧ w.length ≤ 1000 ∧
  ∀ H', SameP p H H' → LearnAt CL H' p b (runS g z cap st w).1 (runS g z cap st w).2 → Q (.str (S (packS g z cap st w))) H')
theorem u_put {CB CL C CS : Addr} {H : Hp} {Q : VK} {E : XK} {k p b : Addr} {g : List Nat} {z : Nat} {cap : Int} {st : List Int × List Nat} {w : List Nat} (hk : PackAt C H k p b) (hl : LearnAt CL H p b st.1 st.2) (hb : BookAt CB H b g z cap) (bk : BookOk g z cap) (ok : StOk g z st) (n : b ≠ p) (n2 : k ≠ p) (hw : ∀ c ∈ w, c ∈ g) (lw : w.length ≤ 1000)
    (q : ∀ H', SameP p H H' → LearnAt CL H' p b (runS g z cap st w).1 (runS g z cap st w).2 → Q (.str (S (packS g z cap st w))) H') : sp_Packer_put CB CL C CS [.ref k, .str (S w)] H Q E := ⟨_, _, rfl, .inr ⟨k, p, b, g, z, cap, st, w, rfl, rfl, hk, hl, hb, bk, ok, n, n2, hw, lw, q⟩⟩
theorem u_putX {CB CL C CS : Addr} {H : Hp} {Q : VK} {E : XK} {k p b : Addr} {w : List Nat} (hk : PackAt C H k p b) (h : BadSg CB CS H E b w) : sp_Packer_put CB CL C CS [.ref k, .str (S w)] H Q E := ⟨k, w, rfl, .inl ⟨p, b, hk, h⟩⟩

theorem ok_Packer_put (T : Txt K mg A) : FnOk P w K mg base (L2.CX P w) 7 A.f_Packer_put A.d_Packer_put ["self", "part"] (sp_Packer_put A.C_Book A.C_Learner A.C_Packer A.C_BadSign) := by
  have G_Learner_took := ok_Learner_took (P := P) (w := w) (base := base) T
  have G_need_signs := ok_need_signs (P := P) (w := w) (base := base) T
  refine T.F_Packer_put.okX sc_Packer_put (fun vs H Q E h => by first | (obtain ⟨rfl, _⟩ := h; rfl) | (obtain ⟨_, rfl, _⟩ := h; rfl) | (obtain ⟨_, _, rfl, _⟩ := h; rfl) | (obtain ⟨_, _, _, rfl, _⟩ := h; rfl) | (obtain ⟨_, _, _, _, rfl, _⟩ := h; rfl) | (obtain ⟨_, _, _, _, _, rfl, _⟩ := h; rfl) | (obtain ⟨_, _, _, _, _, _, rfl, _⟩ := h; rfl) | (obtain ⟨_, _, _, _, _, _, _, rfl, _⟩ := h; rfl) | (obtain ⟨_, _, _, _, _, _, _, _, rfl, _⟩ := h; rfl) | (obtain ⟨_, _, _, _, _, _, _, _, _, rfl, _⟩ := h; rfl) | (obtain ⟨_, _, _, _, _, _, _, _, _, _, rfl, _⟩ := h; rfl) | (obtain ⟨_, _, _, _, _, _, _, _, _, _, _, rfl, _⟩ := h; rfl) | (obtain ⟨_, _, _, _, _, _, _, _, _, _, _, _, rfl, _⟩ := h; rfl) | (obtain ⟨_, _, _, _, _, _, _, _, _, _, _, _, _, rfl, _⟩ := h; rfl) | (obtain ⟨_, _, _, _, _, _, _, _, _, _, _, _, _, _, rfl, _⟩ := h; rfl) | (obtain ⟨_, _, _, _, _, _, _, _, _, _, _, _, _, _, _, rfl, _⟩ := h; rfl) | (obtain ⟨_, _, _, _, _, _, _, _, _, _, _, _, _, _, _, _, rfl, _⟩ := h; rfl) | (obtain ⟨_, _, _, _, _, _, _, _, _, _, _, _, _, _, _, _, _, rfl, _⟩ := h; rfl) | (obtain ⟨_, _, _, _, _, _, _, _, _, _, _, _, _, _, _, _, _, _, rfl, _⟩ := h; rfl) | (obtain ⟨_, _, _, _, _, _, _, _, _, _, _, _, _, _, _, _, _, _, _, rfl, _⟩ := h; rfl) | (obtain ⟨_, _, _, _, _, _, _, _, _, _, _, _, _, _, _, _, _, _, _, _, rfl, _⟩ := h; rfl) | (obtain ⟨_, _, _, _, _, _, _, _, _, _, _, _, _, _, _, _, _, _, _, _, _, rfl, _⟩ := h; rfl)) (fun cdv Ar outer s H vs Q E hr h => ?_)
  obtain ⟨k0, w0, rfl, h⟩ := h
  have hr_Learner_took := hr.mono (by decide : 6 ≤ 6)
  have hr_need_signs := hr.mono (by decide : 1 ≤ 6)
  have na_Book_signs := T.na_Book_signs
  have na_Learner_words := T.na_Learner_words
  have na_Packer_book := T.na_Packer_book
  have na_Packer_learner := T.na_Packer_learner
  have cl_Book := T.cl_Book
  have cl_Learner := T.cl_Learner
  have cl_Packer := T.cl_Packer
  refine ⟨_, (pss_cons (ps_expr (pe_call G_need_signs hr_need_signs rfl T.g_need_signs T.F_need_signs.kp T.b_need_signs .nil (passX (E := E)) (pa_cons (pe_fldK (K := K) (pv 0)) (pa_cons (pv 1) pa_nil))))
      (pss_cons (ps_set (i := 2) sc_Packer_put.nd rfl (Or.inl rfl) pe_str)
      (pss_cons (ps_for (passes_of rfl) rfl (pi_str (pv 1)) (pg_name (i := 3) sc_Packer_put.nd rfl (Or.inl rfl))
      (pss_cons (ps_set (i := 2) sc_Packer_put.nd rfl (Or.inl rfl) (pe_op op_add_str (pv 2) (pe_ix (ix_listK (K := K)) (pe_fldK (K := K) (pe_fldK (K := K) (pv 0))) (pe_bmK (K := K) PySem.F.plainAttrs_str PySem.F.slot_str_index PySem.F.type_str_index mt_sindexR (pe_fldK (K := K) (pe_fldK (K := K) (pv 0))) (pa_cons (pv 3) pa_nil)) (fun _ _ => rfl))))
      (pss_one (ps_expr (pe_meth (pe_fldK (K := K) (pv 0)) T.cl_Learner T.m_Learner_took G_Learner_took hr_Learner_took T.b_Learner_took .nil pass0 (pa_cons (pv 3) pa_nil))))))
      (pss_one (ps_ret (pv 2)))))), ?_⟩
  refine w_start (σ' := [some _, some _, none, none]) rfl ?_
  try dsimp only [cxOf, Cx.nox, Cx.wish]
  rcases h with ⟨p, b, ⟨dk, hk⟩, bad⟩ | ⟨k, p, b, g, z, cap, st, w, rfl, rfl, ⟨dk, hk⟩, hl, hb, bk, ok, nbp, nkp, hw, lw, q⟩
  · walk_at "ss"
    exact u_need_signsX bad
  have few := bk.few
  walk_at "ss"
  refine u_need_signs hb hw ?_
  walk_at "ss"
  refine for_it walk_S (fun i σ' H' => (∃ u, σ' = [some (.ref k), some (.str (S w)), some (.str (S (packS g z cap st (w.take i)))), u]) ∧ SameP p H H' ∧ LearnAt A.C_Learner H' p b (runS g z cap st (w.take i)).1 (runS g z cap st (w.take i)).2)
    ⟨⟨_, by rw [str_nil]; rfl⟩, SameP.refl, hl⟩ (fun _ _ _ _ _ => trivial) (fun i x σ' H' H3 hi p y => ?_) (fun σ' H' p => ?_)
  · obtain ⟨rfl, c, hc, rfl⟩ := y
    obtain ⟨⟨u, rfl⟩, sp, hl'⟩ := p
    have hm := hw c (List.mem_of_getElem? hc)
    have ok' := runS_ok bk (w := w.take i) ok
    have tk := take_succ hc
    have eP : packS g z cap st (w.take (i + 1)) = packS g z cap st (w.take i) ++ wordAt g (runS g z cap st (w.take i)).1 c := by
      rw [tk, packS_app]
      show _ ++ (wordAt g _ c ++ []) = _
      rw [List.append_nil]
    have eR : runS g z cap st (w.take (i + 1)) = tookS g z cap (runS g z cap st (w.take i)) c := by rw [tk, runS_app]; rfl
    have pb := (packS_bits bk ok (w := w.take i) (fun d hd => hw d (List.mem_of_mem_take hd))).2
    have wb := (wordAt_bits ok' hm).2
    obtain ⟨_, hcw, _⟩ := wordAt_way ok' hm
    rw [List.length_take] at pb
    generalize packS g z cap st (w.take i) = acc at eP pb
    generalize runS g z cap st (w.take i) = st1 at *
    have hk' := sp.at hk nkp
    have hb' := hb.but sp nbp
    obtain ⟨db, hbb⟩ := id hb'
    obtain ⟨dl, sa, wa, hpp, hsa, hwa⟩ := id hl'.ex
    walk_at "ss"
    refine w_index bk.nd (idx_of hm) ?_
    walk_at "ss"
    refine w_ixL (SqL.of hwa) (atI_nat (by unfold wordsV; rw [List.getElem?_map, hcw] <;> rfl)) ?_
    walk_at "ss"
    refine w_addX (Nat.le_trans (show _ ≤ 40000 by omega) (by decide)) ?_
    rw [S_cat, ← eP]
    walk_at "ss"
    refine u_took hl' hb' bk ok' nbp (fun H4 s4 hl4 => ?_)
    rw [← eR] at hl4
    walk_at "ss"
    exact ⟨⟨_, rfl⟩, sp.trans s4, hl4⟩
  · obtain ⟨⟨u, rfl⟩, sp, hl'⟩ := p
    rw [List.take_length] at hl' ⊢
    walk_at "ss"
    exact q _ sp hl'
end
theorem sc_Unpacker_init : FnScope ["self", "book", "many"] ["self", "book", "many"] (defScope s_Unpacker_init) := ⟨rfl, rfl, rfl, by decide +kernel, rfl, by decide +kernel, by decide +kernel⟩
section
variable {P : Program} {w : World} {K : PySem.W.Frag} {mg : Str → Option Value} {base : Heap} {A : Adr}
def sp_Unpacker_init (CB CL C CC : Addr) : L2.Sp := fun vs H Q E => ∃ (k dx b : Addr) (g : List Nat) (z : Nat) (cap : Int) (v : V), vs = [.ref k, .ref b, v] ∧ H k = some (.ins C dx []) ∧ BookAt CB H b g z cap ∧ BookOk g z cap ∧ b ≠ k ∧ Kd H v ∧ (wholeV v 0 2000 = false → E (.ref CC) none H) ∧
  ∀ m : Nat, v = .int (m : Int) → m ≤ 2000 → ∀ H' p, SameP k H H' → H p = none → UnpAt C H' k p b m [] → LearnAt CL H' p b (onesL g) [] → Q .non H'
/-- Unpacker(book, many) -/
theorem u_Unpacker {CB CL C CC : Addr} {H : Hp} {Q : VK} {E : XK} {b : Addr} {g : List Nat} {z : Nat} {cap : Int} {v : V} (hb : BookAt CB H b g z cap) (bk : BookOk g z cap) (hv : Kd H v) (bad : wholeV v 0 2000 = false → ∀ H', Same H H' → E (.ref CC) none H')
    (q : ∀ m : Nat, v = .int (m : Int) → m ≤ 2000 → ∀ k p H', Same H H' → H k = none → H p = none → k ≠ p → UnpAt C H' k p b m [] → LearnAt CL H' p b (onesL g) [] → Q (.ref k) H') : MadeQ C (sp_Unpacker_init CB CL C CC) E [.ref b, v] Q H :=
  w_made fun x dx H2 s2 hx h2 => ⟨x, dx, b, g, z, cap, v, rfl, h2, hb.same s2, bk, (let ⟨_, e⟩ := hb; ne_of_none e hx), hv.same s2, fun h => bad h H2 s2, fun m hm lm H' p s' hp k1 k2 => ⟨rfl, q m hm lm x p H' (s'.same s2 hx) hx (s2.free hp) (ne_of_none h2 hp) k1 k2⟩⟩
theorem ok_Unpacker_init (T : Txt K mg A) : FnOk P w K mg base (L2.CX P w) 8 A.f_Unpacker_init A.d_Unpacker_init ["self", "book", "many"] (sp_Unpacker_init A.C_Book A.C_Learner A.C_Unpacker A.C_BadCount) := by
  have G_whole := ok_whole (P := P) (w := w) (base := base) T
  have G_Learner_init := ok_Learner_init (P := P) (w := w) (base := base) T
  refine T.F_Unpacker_init.okX sc_Unpacker_init (fun vs H Q E h => by first | (obtain ⟨rfl, _⟩ := h; rfl) | (obtain ⟨_, rfl, _⟩ := h; rfl) | (obtain ⟨_, _, rfl, _⟩ := h; rfl) | (obtain ⟨_, _, _, rfl, _⟩ := h; rfl) | (obtain ⟨_, _, _, _, rfl, _⟩ := h; rfl) | (obtain ⟨_, _, _, _, _, rfl, _⟩ := h; rfl) | (obtain ⟨_, _, _, _, _, _, rfl, _⟩ := h; rfl) | (obtain ⟨_, _, _, _, _, _, _, rfl, _⟩ := h; rfl) | (obtain ⟨_, _, _, _, _, _, _, _, rfl, _⟩ := h; rfl) | (obtain ⟨_, _, _, _, _, _, _, _, _, rfl, _⟩ := h; rfl) | (obtain ⟨_, _, _, _, _, _, _, _, _, _, rfl, _⟩ := h; rfl) | (obtain ⟨_, _, _, _, _, _, _, _, _, _, _, rfl, _⟩ := h; rfl) | (obtain ⟨_, _, _, _, _, _, _, _, _, _, _, _, rfl, _⟩ := h; rfl) | (obtain ⟨_, _, _, _, _, _, _, _, _, _, _, _, _, rfl, _⟩ := h; rfl) | (obtain ⟨_, _, _, _, _, _, _, _, _, _, _, _, _, _, rfl, _⟩ := h; rfl) | (obtain ⟨_, _, _, _, _, _, _, _, _, _, _, _, _, _, _, rfl, _⟩ := h; rfl) | (obtain ⟨_, _, _, _, _, _, _, _, _, _, _, _, _, _, _, _, rfl, _⟩ := h; rfl) | (obtain ⟨_, _, _, _, _, _, _, _, _, _, _, _, _, _, _, _, _, rfl, _⟩ := h; rfl) | (obtain ⟨_, _, _, _, _, _, _, _, _, _, _, _, _, _, _, _, _, _, rfl, _⟩ := h; rfl) | (obtain ⟨_, _, _, _, _, _, _, _, _, _, _, _, _, _, _, _, _, _, _, rfl, _⟩ := h; rfl) | (obtain ⟨_, _, _, _, _, _, _, _, _, _, _, _, _, _, _, _, _, _, _, _, rfl, _⟩ := h; rfl) | (obtain ⟨_, _, _, _, _, _, _, _, _, _, _, _, _, _, _, _, _, _, _, _, _, rfl, _⟩ := h; rfl)) (fun cdv Ar outer s H vs Q E hr h => ?_)
  obtain ⟨k, dx, b, g, z, cap, v, rfl, hk, ⟨db, hb⟩, bk, nb, hv, bad, q⟩ := h
  have hr_whole := hr.mono (by decide : 1 ≤ 7)
  have hm_Learner_init := hr.mono (by decide : 6 + 1 ≤ 7)
  have na_Unpacker_book := T.na_Unpacker_book
  have na_Unpacker_learner := T.na_Unpacker_learner
  have na_Unpacker_left := T.na_Unpacker_left
  have na_Unpacker_rest := T.na_Unpacker_rest
  have cl_Learner := T.cl_Learner
  have cl_Unpacker := T.cl_Unpacker
  refine ⟨_, (pss_cons (ps_if (pt_not (pt_val (pe_call G_whole hr_whole rfl T.g_whole T.F_whole.kp T.b_whole .nil pass0 (pa_cons (pv 2) (pa_cons pe_int (pa_cons (pe_glob (v := .int 2000) rfl T.c_MOST_TEXT ⟨_, rfl⟩) pa_nil)))))) (pss_one (ps_raiseX (E := E) rfl T.x_BadCount T.g_BadCount rfl))
      pss_nil)
      (pss_cons (ps_fldK (K := K) (pv 0) (pv 1))
      (pss_cons (ps_fldK (K := K) (pv 0) (pe_make T.mk_Learner G_Learner_init hm_Learner_init rfl T.g_Learner T.b_Learner_init .nil pass0 (pa_cons (pv 1) pa_nil)))
      (pss_cons (ps_fldK (K := K) (pv 0) (pv 2))
      (pss_one (ps_fldK (K := K) (pv 0) pe_str)))))), ?_⟩
  refine w_start (σ' := [some _, some _, some _]) rfl ?_
  try dsimp only [cxOf, Cx.nox, Cx.wish]
  walk_at "ss"
  refine u_whole hv ?_
  walk_at "ss"
  cases hw : wholeV v 0 2000 with
  | false =>
    walk_at "ss"
    exact bad hw
  | true =>
    obtain ⟨i, rfl, i0, i1⟩ := wholeV_int hw
    obtain ⟨m, rfl⟩ := Int.eq_ofNat_of_zero_le i0
    walk_at "ss"
    walk_at "put"
    intro H1 s1 h1
    have hb1 := s1.at hb nb
    walk_at "ss"
    refine u_Learner (⟨db, hb1⟩ : BookAt A.C_Book H1 b g z cap) bk (fun p H2 s2 hp hl => ?_)
    have h2 := s2 _ _ h1
    have nkp : k ≠ p := ne_of_none h1 hp
    walk_at "ss"
    walk_at "put"
    intro H3 s3 h3
    have hl3 := hl.but s3 h2 nkp.symm
    walk_at "ss"
    walk_at "put"
    intro H4 s4 h4
    have hl4 := hl3.but s4 h3 nkp.symm
    walk_at "ss"
    walk_at "put"
    intro H5 s5 h5
    have hl5 := hl4.but s5 h4 nkp.symm
    walk_at "ss"
    exact q m rfl (by omega) H5 p (s1.trans (s2.toP.trans (s3.trans (s4.trans s5)))) (s1.free hp nkp.symm) ⟨dx, by rw [h5, str_nil]⟩ hl5
end
theorem sc_Unpacker_put : FnScope ["self", "bits", "bit", "learner", "found", "word", "at", "sign"] ["self", "bits"] (defScope s_Unpacker_put) := ⟨rfl, rfl, rfl, by decide +kernel, rfl, by decide +kernel, by decide +kernel⟩
section
variable {P : Program} {w : World} {K : PySem.W.Frag} {mg : Str → Option Value} {base : Heap} {A : Adr}
structure PutIn (CB CL C : Addr) (H : Hp) (k p b : Addr) (g : List Nat) (z : Nat) (cap : Int) (st : St2) (L : Nat) (rest bits : Word) : Prop where
  u : UnpAt C H k p b L rest
  l : LearnAt CL H p b st.1 st.2
  hb : BookAt CB H b g z cap
  bk : BookOk g z cap
  ok : StOk g z st
  few : L ≤ 2000
  lb : bits.length ≤ 50000
  lr : rest.length ≤ 50000
  n : b ≠ k
def sp_Unpacker_put (CB CL C CBit CLoose : Addr) : L2.Sp := fun vs H Q E => ∃ (k p b : Addr) (g : List Nat) (z : Nat) (cap : Int) (st : St2) (L : Nat) (rest bits : Word), vs = [.ref k, .str (S bits)] ∧ PutIn CB CL C H k p b g z cap st L rest bits ∧ ((¬ ∀ c ∈ bits, c = 48 ∨ c = 49) → E (.ref CBit) none H) ∧
  ((∀ c ∈ bits, c = 48 ∨ c = 49) → ∀ R, unpS g z cap (L + bits.length) st L rest bits = R → (R.rest ≠ [] → ∀ H', Same H H' → E (.ref CLoose) none H') ∧
    (R.rest = [] → ∀ H' p', SameP k H H' → H p' = none → UnpAt C H' k p' b (L - R.told.length) R.word → LearnAt CL H' p' b R.st.1 R.st.2 → StOk g z R.st → Q (.str (S R.told)) H'))
theorem u_uput {CB CL C CBit CLoose : Addr} {H : Hp} {Q : VK} {E : XK} {k p b : Addr} {g : List Nat} {z : Nat} {cap : Int} {st : St2} {L : Nat} {rest bits : Word} (i : PutIn CB CL C H k p b g z cap st L rest bits) (bad : (¬ ∀ c ∈ bits, c = 48 ∨ c = 49) → E (.ref CBit) none H)
    (q : (∀ c ∈ bits, c = 48 ∨ c = 49) → ∀ R, unpS g z cap (L + bits.length) st L rest bits = R → (R.rest ≠ [] → ∀ H', Same H H' → E (.ref CLoose) none H') ∧
      (R.rest = [] → ∀ H' p', SameP k H H' → H p' = none → UnpAt C H' k p' b (L - R.told.length) R.word → LearnAt CL H' p' b R.st.1 R.st.2 → StOk g z R.st → Q (.str (S R.told)) H')) :
    sp_Unpacker_put CB CL C CBit CLoose [.ref k, .str (S bits)] H Q E := ⟨k, p, b, g, z, cap, st, L, rest, bits, rfl, i, bad, q⟩
theorem ok_Unpacker_put (T : Txt K mg A) : FnOk P w K mg base (L2.CX P w) 9 A.f_Unpacker_put A.d_Unpacker_put ["self", "bits"] (sp_Unpacker_put A.C_Book A.C_Learner A.C_Unpacker A.C_BadBit A.C_Loose) := by
  have G_Learner_copied := ok_Learner_copied (P := P) (w := w) (base := base) T
  have G_Learner_took := ok_Learner_took (P := P) (w := w) (base := base) T
  refine T.F_Unpacker_put.okX sc_Unpacker_put (fun vs H Q E h => by first | (obtain ⟨rfl, _⟩ := h; rfl) | (obtain ⟨_, rfl, _⟩ := h; rfl) | (obtain ⟨_, _, rfl, _⟩ := h; rfl) | (obtain ⟨_, _, _, rfl, _⟩ := h; rfl) | (obtain ⟨_, _, _, _, rfl, _⟩ := h; rfl) | (obtain ⟨_, _, _, _, _, rfl, _⟩ := h; rfl) | (obtain ⟨_, _, _, _, _, _, rfl, _⟩ := h; rfl) | (obtain ⟨_, _, _, _, _, _, _, rfl, _⟩ := h; rfl) | (obtain ⟨_, _, _, _, _, _, _, _, rfl, _⟩ := h; rfl) | (obtain ⟨_, _, _, _, _, _, _, _, _, rfl, _⟩ := h; rfl) | (obtain ⟨_, _, _, _, _, _, _, _, _, _, rfl, _⟩ := h; rfl) | (obtain ⟨_, _, _, _, _, _, _, _, _, _, _, rfl, _⟩ := h; rfl) | (obtain ⟨_, _, _, _, _, _, _, _, _, _, _, _, rfl, _⟩ := h; rfl) | (obtain ⟨_, _, _, _, _, _, _, _, _, _, _, _, _, rfl, _⟩ := h; rfl) | (obtain ⟨_, _, _, _, _, _, _, _, _, _, _, _, _, _, rfl, _⟩ := h; rfl) | (obtain ⟨_, _, _, _, _, _, _, _, _, _, _, _, _, _, _, rfl, _⟩ := h; rfl) | (obtain ⟨_, _, _, _, _, _, _, _, _, _, _, _, _, _, _, _, rfl, _⟩ := h; rfl) | (obtain ⟨_, _, _, _, _, _, _, _, _, _, _, _, _, _, _, _, _, rfl, _⟩ := h; rfl) | (obtain ⟨_, _, _, _, _, _, _, _, _, _, _, _, _, _, _, _, _, _, rfl, _⟩ := h; rfl) | (obtain ⟨_, _, _, _, _, _, _, _, _, _, _, _, _, _, _, _, _, _, _, rfl, _⟩ := h; rfl) | (obtain ⟨_, _, _, _, _, _, _, _, _, _, _, _, _, _, _, _, _, _, _, _, rfl, _⟩ := h; rfl) | (obtain ⟨_, _, _, _, _, _, _, _, _, _, _, _, _, _, _, _, _, _, _, _, _, rfl, _⟩ := h; rfl)) (fun cdv Ar outer s H vs Q E hr h => ?_)
  obtain ⟨k, p, b, g, z, cap, st, L, rest, bits, rfl, ⟨⟨dk, hk⟩, hl, hb, bk, ok, few, lb, lr, nbk⟩, bad, q⟩ := h
  have hr_Learner_copied := hr.mono (by decide : 8 ≤ 8)
  have hr_Learner_took := hr.mono (by decide : 6 ≤ 8)
  have na_Book_signs := T.na_Book_signs
  have na_Learner_words := T.na_Learner_words
  have na_Unpacker_book := T.na_Unpacker_book
  have na_Unpacker_learner := T.na_Unpacker_learner
  have na_Unpacker_left := T.na_Unpacker_left
  have na_Unpacker_rest := T.na_Unpacker_rest
  have cl_Book := T.cl_Book
  have cl_Learner := T.cl_Learner
  have cl_Unpacker := T.cl_Unpacker
  refine ⟨_, (pss_cons (ps_for (passes_of rfl) rfl (pi_str (pv 1)) (pg_name (i := 2) sc_Unpacker_put.nd rfl (Or.inl rfl))
      (pss_one (ps_if (PW.pt (pw_and (pt_cmpR op_ne (pv 2) pe_str (nomark _)) (pw_and1 (pt_cmpR op_ne (pv 2) pe_str (nomark _))))) (pss_one (ps_raiseX (E := E) rfl T.x_BadBit T.g_BadBit rfl))
      pss_nil)))
      (pss_cons (ps_set (i := 3) sc_Unpacker_put.nd rfl (Or.inl rfl) (pe_meth0 (pe_fldK (K := K) (pv 0)) T.cl_Learner T.m_Learner_copied G_Learner_copied hr_Learner_copied T.b_Learner_copied .nil pass0))
      (pss_cons (ps_set (i := 4) sc_Unpacker_put.nd rfl (Or.inl rfl) pe_str)
      (pss_cons (ps_set (i := 5) sc_Unpacker_put.nd rfl (Or.inl rfl) (pe_fldK (K := K) (pv 0)))
      (pss_cons (ps_set (i := 6) sc_Unpacker_put.nd rfl (Or.inl rfl) pe_int)
      (pss_cut (ps_while (passes_of rfl) (PW.pt (pw_and (pt_cmpR op_lt (pe_callB call_len_str (by rfl) T.n_len PySem.boot_len (pa_cons (pv 4) pa_nil)) (pe_fldK (K := K) (pv 0)) (nomark _)) (pw_and1 (PW.pt (pw_or (pt_cmpR (op_inK (K := K)) (pv 5) (pe_fldK (K := K) (pv 3)) (by rfl)) (pw_or1 (pt_cmpR op_lt (pv 6) (pe_callB call_len_str (by rfl) T.n_len PySem.boot_len (pa_cons (pv 1) pa_nil)) (nomark _)))))))) (pss_one (ps_if (pt_cmpR (op_inK (K := K)) (pv 5) (pe_fldK (K := K) (pv 3)) (by rfl)) (pss_cons (ps_set (i := 7) sc_Unpacker_put.nd rfl (Or.inl rfl) (pe_ix ix_str (pe_fldK (K := K) (pe_fldK (K := K) (pv 0))) (pe_bmK (K := K) PySem.F.plainAttrs_list PySem.F.slot_list_index PySem.F.type_list_index (mt_indexK (K := K)) (pe_fldK (K := K) (pv 3)) (pa_cons (pv 5) pa_nil)) (fun _ _ => rfl)))
      (pss_cons (ps_set (i := 4) sc_Unpacker_put.nd rfl (Or.inl rfl) (pe_op op_add_str (pv 4) (pv 7)))
      (pss_cons (ps_expr (pe_meth (pv 3) T.cl_Learner T.m_Learner_took G_Learner_took hr_Learner_took T.b_Learner_took .nil pass0 (pa_cons (pv 7) pa_nil)))
      (pss_one (ps_set (i := 5) sc_Unpacker_put.nd rfl (Or.inl rfl) pe_str)))))
      (pss_cons (ps_set (i := 5) sc_Unpacker_put.nd rfl (Or.inl rfl) (pe_op op_add_str (pv 5) (pe_ix ix_str (pv 1) (pv 6) (fun _ _ => rfl))))
      (pss_one (ps_set (i := 6) sc_Unpacker_put.nd rfl (Or.inl rfl) (pe_op op_add (pv 6) pe_int)))))))
      (pss_cons (ps_if (pt_cmpR op_lt (pv 6) (pe_callB call_len_str (by rfl) T.n_len PySem.boot_len (pa_cons (pv 1) pa_nil)) (nomark _)) (pss_one (ps_raiseX (E := E) rfl T.x_Loose T.g_Loose rfl))
      pss_nil)
      (pss_cons (ps_fldK (K := K) (pv 0) (pv 3))
      (pss_cons (ps_fldK (K := K) (pv 0) (pv 5))
      (pss_cons (ps_fldK (K := K) (pv 0) (pe_op op_sub (pe_fldK (K := K) (pv 0)) (pe_callB call_len_str (by rfl) T.n_len PySem.boot_len (pa_cons (pv 4) pa_nil))))
      (pss_one (ps_ret (pv 4))))))))))))), ?_⟩
  refine w_start (σ' := [some _, some _, none, none, none, none, none, none]) rfl ?_
  try dsimp only [cxOf, Cx.nox, Cx.wish]
  have fewg := bk.few
  walk_at "ss"
  refine for_it walk_S (fun i σ' H' => (∃ u, σ' = [some (.ref k), some (.str (S bits)), u, none, none, none, none, none]) ∧ H = H' ∧ ∀ j c, j < i → bits[j]? = some c → c = 48 ∨ c = 49) ⟨⟨_, rfl⟩, rfl, fun j c hj _ => absurd hj (Nat.not_lt_zero j)⟩ (fun _ _ _ _ _ => trivial) (fun i x σ' H' H3 hi p y => ?_) (fun σ' H' p => ?_)
  · obtain ⟨rfl, c, hc, rfl⟩ := y
    obtain ⟨⟨u, rfl⟩, rfl, hj⟩ := p
    have nx : (c = 48 ∨ c = 49) → ∀ j d, j < i + 1 → bits[j]? = some d → d = 48 ∨ d = 49 := fun h j d hlt hd => by
      rcases Nat.lt_or_eq_of_le (Nat.le_of_lt_succ hlt) with l | l
      · exact hj j d l hd
      · subst l
        rw [hc] at hd
        cases (Option.some.inj hd)
        exact h
    walk_at "ss"
    rw [show Str.ofString "0" = S [48] from str_0, show Str.ofString "1" = S [49] from str_1]
    refine w_iteNX (fun h0 => ?_) (fun h0 => ?_)
    · walk_at "ss"
      refine w_iteNX (fun h1 => ?_) (fun h1 => ?_)
      · walk_at "ss"
        exact bad fun h => by
          rcases h c (List.mem_of_getElem? hc) with rfl | rfl
          · exact h0 rfl
          · exact h1 rfl
      · walk_at "ss"
        exact ⟨⟨_, rfl⟩, rfl, nx (.inr (by simpa using h1))⟩
    · walk_at "ss"
      exact ⟨⟨_, rfl⟩, rfl, nx (.inl (by simpa using h0))⟩
  obtain ⟨⟨u0, rfl⟩, rfl, hj⟩ := p
  have h01 : ∀ c ∈ bits, c = 48 ∨ c = 49 := fun c hc => by
    obtain ⟨i, hi, e⟩ := List.getElem_of_mem hc
    exact hj i c hi (by rw [List.getElem?_eq_getElem hi, e])
  obtain ⟨R, hR⟩ : ∃ R, unpS g z cap (L + bits.length) st L rest bits = R := ⟨_, rfl⟩
  obtain ⟨loose, good⟩ := q h01 R hR
  clear q bad hj
  obtain ⟨dp, spa, wpa, hpp, _, _⟩ := id hl.ex
  walk_at "ss"
  refine u_copied hl hb bk (fun p' H1 s1 hp' hl1 => ?_)
  have hk1 := s1 _ _ hk
  have hb1 := hb.same s1
  have nkp : k ≠ p' := ne_of_none hk hp'
  have nbp : b ≠ p' := let ⟨_, e⟩ := hb; ne_of_none e hp'
  walk_at "ss"
  rw [str_nil]
  refine w_cut (fun σ' H' => ∃ (fd : List Nat) (at_ : Nat) (word : Word) (st' : St2) (u v : Option V), σ' = [some (.ref k), some (.str (S bits)), u, some (.ref p'), some (.str (S fd)), some (.str (S word)), some (.int (at_ : Int)), v] ∧ at_ ≤ bits.length ∧ fd.length ≤ L ∧ SameP p' H1 H' ∧ LearnAt A.C_Learner H' p' b st'.1 st'.2 ∧ StOk g z st' ∧ R = ⟨fd, st', word, bits.drop at_⟩) ?_ (fun σ' H' p => ?_)
  · refine w_while (W := fun m σ' H' => ∃ (fd : List Nat) (at_ : Nat) (word : Word) (st' : St2) (u v : Option V), σ' = [some (.ref k), some (.str (S bits)), u, some (.ref p'), some (.str (S fd)), some (.str (S word)), some (.int (at_ : Int)), v] ∧ m = (L - fd.length) + (bits.length - at_) ∧ fd.length ≤ L ∧ at_ ≤ bits.length ∧ word.length ≤ rest.length + at_ ∧ SameP p' H1 H' ∧ LearnAt A.C_Learner H' p' b st'.1 st'.2 ∧ StOk g z st' ∧
        R = ⟨fd ++ (unpS g z cap m st' (L - fd.length) word (bits.drop at_)).told, (unpS g z cap m st' (L - fd.length) word (bits.drop at_)).st, (unpS g z cap m st' (L - fd.length) word (bits.drop at_)).word, (unpS g z cap m st' (L - fd.length) word (bits.drop at_)).rest⟩) (m0 := L + bits.length)
      ⟨[], 0, rest, st, _, _, rfl, by rw [List.length_nil]; omega, Nat.zero_le _, Nat.zero_le _, by omega, SameP.refl, hl1, ok, by rw [List.length_nil, Nat.sub_zero, List.drop_zero, List.nil_append]; exact hR.symm⟩ ?_
    rintro m σ' H2 ⟨fd, at_, word, st', u, v, rfl, rfl, hfd, hat, lwd, sp, hl2, ok2, hr⟩
    have hk2 := sp.at hk1 nkp
    have hb2 := hb1.but sp nbp
    obtain ⟨db, hbb⟩ := id hb2
    obtain ⟨dl, sa, wa, hp2, hsa, hwa⟩ := id hl2.ex
    walk_at "ss"
    refine w_lenX (Nat.le_trans (show _ ≤ 2000 by omega) (by decide)) ?_
    rw [S_len]
    walk_at "ss"
    refine w_ite (fun hlt => ?_) (fun hge => ?_)
    · have hlt' : fd.length < L := by omega
      walk_at "ss"
      refine w_inW hwa ?_
      walk_at "ss"
      refine w_ite (fun hin => ?_) (fun hin => ?_)
      · obtain ⟨m1, m2, m3, m4, m5⟩ := sign_is bk ok2 hin
        walk_at "ss"
        refine w_inW hwa ?_
        walk_at "ss"
        refine w_ite (fun _ => ?_) (fun h => (h hin).elim)
        walk_at "ss"
        refine w_idxW hwa m3 m5 ?_
        refine w_ixX (Nat.le_trans fewg (by decide)) m4 ?_
        walk_at "ss"
        refine w_addX (by rw [List.length_singleton]; exact Nat.le_trans (show _ ≤ 2001 by omega) (by decide)) ?_
        rw [S_cat]
        walk_at "ss"
        refine u_took hl2 hb2 bk ok2 nbp (fun H3 s3 hl3 => ?_)
        walk_at "ss"
        have ef : (fd ++ [signOf g st'.1 word]).length = fd.length + 1 := by rw [List.length_append, List.length_singleton]
        refine ⟨(L - (fd ++ [signOf g st'.1 word]).length) + (bits.length - at_), by rw [ef]; omega, fd ++ [signOf g st'.1 word], at_, [], tookS g z cap st' (signOf g st'.1 word), _, _, rfl, rfl, by rw [ef]; omega, hat, by rw [List.length_nil]; omega, sp.trans s3, hl3, tookS_ok bk ok2, ?_⟩
        rw [hr, ef, show L - fd.length + (bits.length - at_) = (L - (fd.length + 1) + (bits.length - at_)) + 1 by omega, unp_sign (by omega) hin, show L - fd.length - 1 = L - (fd.length + 1) by omega, List.append_assoc]
        rfl
      · walk_at "ss"
        refine w_lenX (Nat.le_trans lb (by decide)) ?_
        rw [S_len]
        walk_at "ss"
        refine w_ite (fun hal => ?_) (fun hal => ?_)
        · have hal' : at_ < bits.length := by omega
          have hd := List.drop_eq_getElem_cons hal'
          walk_at "ss"
          refine w_inW hwa ?_
          walk_at "ss"
          refine w_ite (fun h => (hin h).elim) (fun _ => ?_)
          walk_at "ss"
          refine w_ixX (Nat.le_trans lb (by decide)) (List.getElem?_eq_getElem hal') ?_
          refine w_addX (by rw [List.length_singleton]; exact Nat.le_trans (show _ ≤ 100001 by omega) (by decide)) ?_
          rw [S_cat]
          walk_at "ss"
          refine ⟨(L - fd.length) + (bits.length - (at_ + 1)), by omega, fd, at_ + 1, word ++ [bits[at_]], st', _, _, rfl, rfl, hfd, hal', by rw [List.length_append, List.length_singleton]; omega, sp, hl2, ok2, ?_⟩
          rw [hr, hd, show L - fd.length + (bits.length - at_) = (L - fd.length + (bits.length - (at_ + 1))) + 1 by omega, unp_bit (by omega) hin]
        · have ea : at_ = bits.length := by omega
          subst ea
          rw [List.drop_length, unp_stop hin, List.append_nil] at hr
          walk_at "ss"
          exact ⟨fd, bits.length, word, st', _, _, rfl, Nat.le_refl _, hfd, sp, hl2, ok2, by rw [List.drop_length]; exact hr⟩
    · have ef : L - fd.length = 0 := by omega
      rw [ef, unp_zero, List.append_nil] at hr
      walk_at "ss"
      exact ⟨fd, at_, word, st', _, _, rfl, hat, hfd, sp, hl2, ok2, hr⟩
  obtain ⟨fd, at_, word, st', u, v, rfl, hat, hfd, sp, hl2, ok2, rfl⟩ := p
  have hk2 := sp.at hk1 nkp
  walk_at "ss"
  refine w_lenX (Nat.le_trans lb (by decide)) ?_
  rw [S_len]
  walk_at "ss"
  refine w_ite (fun h => ?_) (fun h => ?_)
  · walk_at "ss"
    exact loose (fun e => by
      have := congrArg List.length e
      rw [List.length_drop, List.length_nil] at this
      omega) H' (sp.same s1 hp')
  · have ea : at_ = bits.length := by omega
    subst ea
    walk_at "ss"
    walk_at "put"
    intro H3 s3 h3
    have hl3 := hl2.but s3 hk2 nkp.symm
    walk_at "ss"
    walk_at "put"
    intro H4 s4 h4
    have hl4 := hl3.but s4 h3 nkp.symm
    walk_at "ss"
    refine w_lenX (Nat.le_trans (show _ ≤ 2000 by omega) (by decide)) ?_
    rw [S_len]
    walk_at "ss"
    rw [← Int.ofNat_sub hfd]
    walk_at "put"
    intro H5 s5 h5
    have hl5 := hl4.but s5 h4 nkp.symm
    walk_at "ss"
    refine good (List.drop_length) H5 p' ?_ hp' ⟨dk, h5⟩ hl5 ok2
    exact (((sp.same s1 hp').toP).trans s3).trans (s4.trans s5)
end
theorem sc_pack : FnScope ["book", "text"] ["book", "text"] (defScope s_pack) := ⟨rfl, rfl, rfl, by decide +kernel, rfl, by decide +kernel, by decide +kernel⟩
section
variable {P : Program} {w : World} {K : PySem.W.Frag} {mg : Str → Option Value} {base : Heap} {A : Adr}
def sp_pack (CB CS : Addr) : L2.Sp := fun vs H Q E => ∃ (b0 : Addr) (w0 : List Nat), vs = [.ref b0, .str (S w0)] ∧ (BadSg CB CS H E b0 w0 ∨ ∃ (b : Addr) (g : List Nat) (z : Nat) (cap : Int) (w : List Nat), b = b0 ∧ w = w0 ∧ BookAt CB H b g z cap ∧ BookOk g z cap ∧ (∀ c ∈ w, c ∈ g) ∧ w.length ≤ 1000 ∧ ∀ H', Same H H' → Q (.str (S (packS g z cap (st0 g) w))) H')
theorem u_pack {CB CS : Addr} {H : Hp} {Q : VK} {E : XK} {b : Addr} {g : List Nat} {z : Nat} {cap : Int} {w : List Nat} (hb : BookAt CB H b g z cap) (bk : BookOk g z cap) (hw : ∀ c ∈ w, c ∈ g) (lw : w.length ≤ 1000) (q : ∀ H', Same H H' → Q (.str (S (packS g z cap (st0 g) w))) H') : sp_pack CB CS [.ref b, .str (S w)] H Q E := ⟨_, _, rfl, .inr ⟨b, g, z, cap, w, rfl, rfl, hb, bk, hw, lw, q⟩⟩
theorem u_packX {CB CS : Addr} {H : Hp} {Q : VK} {E : XK} {b : Addr} {w : List Nat} (h : BadSg CB CS H E b w) : sp_pack CB CS [.ref b, .str (S w)] H Q E := ⟨b, w, rfl, .inl h⟩

theorem ok_pack (T : Txt K mg A) : FnOk P w K mg base (L2.CX P w) 10 A.f_pack A.d_pack ["book", "text"] (sp_pack A.C_Book A.C_BadSign) := by
  have G_Packer_put := ok_Packer_put (P := P) (w := w) (base := base) T
  have G_Packer_init := ok_Packer_init (P := P) (w := w) (base := base) T
  refine T.F_pack.okX sc_pack (fun vs H Q E h => by first | (obtain ⟨rfl, _⟩ := h; rfl) | (obtain ⟨_, rfl, _⟩ := h; rfl) | (obtain ⟨_, _, rfl, _⟩ := h; rfl) | (obtain ⟨_, _, _, rfl, _⟩ := h; rfl) | (obtain ⟨_, _, _, _, rfl, _⟩ := h; rfl) | (obtain ⟨_, _, _, _, _, rfl, _⟩ := h; rfl) | (obtain ⟨_, _, _, _, _, _, rfl, _⟩ := h; rfl) | (obtain ⟨_, _, _, _, _, _, _, rfl, _⟩ := h; rfl) | (obtain ⟨_, _, _, _, _, _, _, _, rfl, _⟩ := h; rfl) | (obtain ⟨_, _, _, _, _, _, _, _, _, rfl, _⟩ := h; rfl) | (obtain ⟨_, _, _, _, _, _, _, _, _, _, rfl, _⟩ := h; rfl) | (obtain ⟨_, _, _, _, _, _, _, _, _, _, _, rfl, _⟩ := h; rfl) | (obtain ⟨_, _, _, _, _, _, _, _, _, _, _, _, rfl, _⟩ := h; rfl) | (obtain ⟨_, _, _, _, _, _, _, _, _, _, _, _, _, rfl, _⟩ := h; rfl) | (obtain ⟨_, _, _, _, _, _, _, _, _, _, _, _, _, _, rfl, _⟩ := h; rfl) | (obtain ⟨_, _, _, _, _, _, _, _, _, _, _, _, _, _, _, rfl, _⟩ := h; rfl) | (obtain ⟨_, _, _, _, _, _, _, _, _, _, _, _, _, _, _, _, rfl, _⟩ := h; rfl) | (obtain ⟨_, _, _, _, _, _, _, _, _, _, _, _, _, _, _, _, _, rfl, _⟩ := h; rfl) | (obtain ⟨_, _, _, _, _, _, _, _, _, _, _, _, _, _, _, _, _, _, rfl, _⟩ := h; rfl) | (obtain ⟨_, _, _, _, _, _, _, _, _, _, _, _, _, _, _, _, _, _, _, rfl, _⟩ := h; rfl) | (obtain ⟨_, _, _, _, _, _, _, _, _, _, _, _, _, _, _, _, _, _, _, _, rfl, _⟩ := h; rfl) | (obtain ⟨_, _, _, _, _, _, _, _, _, _, _, _, _, _, _, _, _, _, _, _, _, rfl, _⟩ := h; rfl)) (fun cdv Ar outer s H vs Q E hr h => ?_)
  obtain ⟨b0, w0, rfl, h⟩ := h
  have hr_Packer_put := hr.mono (by decide : 7 ≤ 9)
  have hm_Packer_init := hr.mono (by decide : 8 + 1 ≤ 9)
  have cl_Packer := T.cl_Packer
  refine ⟨_, (pss_one (ps_ret (pe_meth (pe_make T.mk_Packer G_Packer_init hm_Packer_init rfl T.g_Packer T.b_Packer_init .nil pass0 (pa_cons (pv 0) pa_nil)) T.cl_Packer T.m_Packer_put G_Packer_put hr_Packer_put T.b_Packer_put .nil (passX (E := E)) (pa_cons (pv 1) pa_nil)))), ?_⟩
  refine w_start (σ' := [some _, some _]) rfl ?_
  try dsimp only [cxOf, Cx.nox, Cx.wish]
  rcases h with bad | ⟨b, g, z, cap, w, rfl, rfl, hb, bk, hw, lw, q⟩
  · obtain ⟨g, z, cap, hb, bk, _, _⟩ := id bad
    walk_at "ss"
    refine u_Packer hb bk (fun k p H1 s1 hk hp nkp hP hl => ?_)
    obtain ⟨dk, hkk⟩ := id hP
    walk_at "ss"
    exact u_putX hP (bad.same s1)
  walk_at "ss"
  refine u_Packer hb bk (fun k p H1 s1 hk hp nkp hP hl => ?_)
  have nbp : b ≠ p := let ⟨_, e⟩ := hb; ne_of_none e hp
  obtain ⟨dk, hkk⟩ := id hP
  walk_at "ss"
  refine u_put (st := st0 g) hP hl (hb.same s1) bk (ones_ok bk) nbp nkp hw lw (fun H2 s2 hl2 => ?_)
  exact q _ (s2.same s1 hp)
end
theorem sc_unpack : FnScope ["book", "bits", "many", "reader", "found"] ["book", "bits", "many"] (defScope s_unpack) := ⟨rfl, rfl, rfl, by decide +kernel, rfl, by decide +kernel, by decide +kernel⟩
section
variable {P : Program} {w : World} {K : PySem.W.Frag} {mg : Str → Option Value} {base : Heap} {A : Adr}
def sp_unpack (CB : Addr) (e : Errs) : L2.Sp := fun vs H Q E => ∃ (b : Addr) (g : List Nat) (z : Nat) (cap : Int) (bits : Word) (v : V), vs = [.ref b, .str (S bits), v] ∧ BookAt CB H b g z cap ∧ BookOk g z cap ∧ bits.length ≤ 50000 ∧ Kd H v ∧ OutQ e (unpO g z cap bits v) H Q E
theorem u_unpack {CB : Addr} {e : Errs} {H : Hp} {Q : VK} {E : XK} {b : Addr} {g : List Nat} {z : Nat} {cap : Int} {bits : Word} {v : V} (hb : BookAt CB H b g z cap) (bk : BookOk g z cap) (lb : bits.length ≤ 50000) (hv : Kd H v) (q : OutQ e (unpO g z cap bits v) H Q E) : sp_unpack CB e [.ref b, .str (S bits), v] H Q E := ⟨b, g, z, cap, bits, v, rfl, hb, bk, lb, hv, q⟩
theorem ok_unpack (T : Txt K mg A) : FnOk P w K mg base (L2.CX P w) 10 A.f_unpack A.d_unpack ["book", "bits", "many"] (sp_unpack A.C_Book ⟨A.C_BadCount, A.C_BadBit, A.C_Loose, A.C_Short, A.C_BadLine⟩) := by
  have G_Unpacker_put := ok_Unpacker_put (P := P) (w := w) (base := base) T
  have G_Unpacker_init := ok_Unpacker_init (P := P) (w := w) (base := base) T
  refine T.F_unpack.okX sc_unpack (fun vs H Q E h => by first | (obtain ⟨rfl, _⟩ := h; rfl) | (obtain ⟨_, rfl, _⟩ := h; rfl) | (obtain ⟨_, _, rfl, _⟩ := h; rfl) | (obtain ⟨_, _, _, rfl, _⟩ := h; rfl) | (obtain ⟨_, _, _, _, rfl, _⟩ := h; rfl) | (obtain ⟨_, _, _, _, _, rfl, _⟩ := h; rfl) | (obtain ⟨_, _, _, _, _, _, rfl, _⟩ := h; rfl) | (obtain ⟨_, _, _, _, _, _, _, rfl, _⟩ := h; rfl) | (obtain ⟨_, _, _, _, _, _, _, _, rfl, _⟩ := h; rfl) | (obtain ⟨_, _, _, _, _, _, _, _, _, rfl, _⟩ := h; rfl) | (obtain ⟨_, _, _, _, _, _, _, _, _, _, rfl, _⟩ := h; rfl) | (obtain ⟨_, _, _, _, _, _, _, _, _, _, _, rfl, _⟩ := h; rfl) | (obtain ⟨_, _, _, _, _, _, _, _, _, _, _, _, rfl, _⟩ := h; rfl) | (obtain ⟨_, _, _, _, _, _, _, _, _, _, _, _, _, rfl, _⟩ := h; rfl) | (obtain ⟨_, _, _, _, _, _, _, _, _, _, _, _, _, _, rfl, _⟩ := h; rfl) | (obtain ⟨_, _, _, _, _, _, _, _, _, _, _, _, _, _, _, rfl, _⟩ := h; rfl) | (obtain ⟨_, _, _, _, _, _, _, _, _, _, _, _, _, _, _, _, rfl, _⟩ := h; rfl) | (obtain ⟨_, _, _, _, _, _, _, _, _, _, _, _, _, _, _, _, _, rfl, _⟩ := h; rfl) | (obtain ⟨_, _, _, _, _, _, _, _, _, _, _, _, _, _, _, _, _, _, rfl, _⟩ := h; rfl) | (obtain ⟨_, _, _, _, _, _, _, _, _, _, _, _, _, _, _, _, _, _, _, rfl, _⟩ := h; rfl) | (obtain ⟨_, _, _, _, _, _, _, _, _, _, _, _, _, _, _, _, _, _, _, _, rfl, _⟩ := h; rfl) | (obtain ⟨_, _, _, _, _, _, _, _, _, _, _, _, _, _, _, _, _, _, _, _, _, rfl, _⟩ := h; rfl)) (fun cdv Ar outer s H vs Q E hr h => ?_)
  obtain ⟨b, g, z, cap, bits, v, rfl, hb, bk, lb, hv, q⟩ := h
  have hr_Unpacker_put := hr.mono (by decide : 9 ≤ 9)
  have hm_Unpacker_init := hr.mono (by decide : 8 + 1 ≤ 9)
  have na_Unpacker_left := T.na_Unpacker_left
  have cl_Unpacker := T.cl_Unpacker
  refine ⟨_, (pss_cons (ps_set (i := 3) sc_unpack.nd rfl (Or.inl rfl) (pe_make T.mk_Unpacker G_Unpacker_init hm_Unpacker_init rfl T.g_Unpacker T.b_Unpacker_init .nil (passX (E := E)) (pa_cons (pv 0) (pa_cons (pv 2) pa_nil))))
      (pss_cons (ps_set (i := 4) sc_unpack.nd rfl (Or.inl rfl) (pe_meth (pv 3) T.cl_Unpacker T.m_Unpacker_put G_Unpacker_put hr_Unpacker_put T.b_Unpacker_put .nil (passX (E := E)) (pa_cons (pv 1) pa_nil)))
      (pss_cons (ps_if (pt_cmpR op_gt (pe_fldK (K := K) (pv 3)) pe_int (nomark _)) (pss_one (ps_raiseX (E := E) rfl T.x_Short T.g_Short rfl))
      pss_nil)
      (pss_one (ps_ret (pv 4)))))), ?_⟩
  refine w_start (σ' := [some _, some _, some _, none, none]) rfl ?_
  try dsimp only [cxOf, Cx.nox, Cx.wish]
  walk_at "ss"
  refine u_Unpacker hb bk hv (fun hw H1 s1 => by rw [unpO_count hw] at q; exact q H1 s1) (fun m ev lm k p H1 s1 hk hp nkp hU hl => ?_)
  subst ev
  have nbk : b ≠ k := let ⟨_, e⟩ := hb; ne_of_none e hk
  obtain ⟨dk, hkk⟩ := id hU
  walk_at "ss"
  refine u_uput (st := st0 g) ⟨hU, hl, hb.same s1, bk, ones_ok bk, lm, lb, Nat.zero_le _, nbk⟩ (fun hn => by rw [unpO_bit lm hn] at q; exact q H1 s1) (fun h01 R hR => ?_)
  rw [unpO_end lm h01, hR] at q
  unfold endO at q
  have len : R.told.length ≤ m := by rw [← hR]; exact unp_len _ _ _ _ _
  refine ⟨fun hr H2 s2 => by rw [if_neg hr] at q; exact q H2 (s1.trans s2), fun hr H2 p' s2 hp' hU2 hl2 ok2 => ?_⟩
  rw [if_pos hr] at q
  obtain ⟨d2, hk2⟩ := id hU2
  walk_at "ss"
  refine w_ite (fun h => ?_) (fun h => ?_)
  · rw [if_pos (by omega)] at q
    walk_at "ss"
    exact q H2 (s2.same s1 hk)
  · rw [if_neg (by omega)] at q
    walk_at "ss"
    exact q H2 (s2.same s1 hk)
end
theorem sc_good_signs : FnScope ["signs", "sign"] ["signs"] (defScope s_good_signs) := ⟨rfl, rfl, rfl, by decide +kernel, rfl, by decide +kernel, by decide +kernel⟩
section
variable {P : Program} {w : World} {K : PySem.W.Frag} {mg : Str → Option Value} {base : Heap} {A : Adr}
def sp_good_signs : L2.Sp := fun vs H Q _ => ∃ (g : List Nat), vs = [.str (S g)] ∧ 1 ≤ g.length ∧ g.length ≤ 40 ∧ g.Nodup ∧ (∀ c ∈ g, 32 ≤ c ∧ c ≤ 126) ∧ Q (.bl true) H
theorem u_good_signs {H : Hp} {Q : VK} {E : XK} {g : List Nat} (h1 : 1 ≤ g.length) (h2 : g.length ≤ 40) (h3 : g.Nodup) (h4 : ∀ c ∈ g, 32 ≤ c ∧ c ≤ 126) (q : Q (.bl true) H) : sp_good_signs [.str (S g)] H Q E := ⟨g, rfl, h1, h2, h3, h4, q⟩
theorem ok_good_signs (T : Txt K mg A) : FnOk P w K mg base CX0 1 A.f_good_signs A.d_good_signs ["signs"] (sp_good_signs) := by
  refine T.F_good_signs.ok sc_good_signs (fun vs H Q E h => by first | (obtain ⟨rfl, _⟩ := h; rfl) | (obtain ⟨_, rfl, _⟩ := h; rfl) | (obtain ⟨_, _, rfl, _⟩ := h; rfl) | (obtain ⟨_, _, _, rfl, _⟩ := h; rfl) | (obtain ⟨_, _, _, _, rfl, _⟩ := h; rfl) | (obtain ⟨_, _, _, _, _, rfl, _⟩ := h; rfl) | (obtain ⟨_, _, _, _, _, _, rfl, _⟩ := h; rfl) | (obtain ⟨_, _, _, _, _, _, _, rfl, _⟩ := h; rfl) | (obtain ⟨_, _, _, _, _, _, _, _, rfl, _⟩ := h; rfl) | (obtain ⟨_, _, _, _, _, _, _, _, _, rfl, _⟩ := h; rfl) | (obtain ⟨_, _, _, _, _, _, _, _, _, _, rfl, _⟩ := h; rfl) | (obtain ⟨_, _, _, _, _, _, _, _, _, _, _, rfl, _⟩ := h; rfl) | (obtain ⟨_, _, _, _, _, _, _, _, _, _, _, _, rfl, _⟩ := h; rfl) | (obtain ⟨_, _, _, _, _, _, _, _, _, _, _, _, _, rfl, _⟩ := h; rfl) | (obtain ⟨_, _, _, _, _, _, _, _, _, _, _, _, _, _, rfl, _⟩ := h; rfl) | (obtain ⟨_, _, _, _, _, _, _, _, _, _, _, _, _, _, _, rfl, _⟩ := h; rfl) | (obtain ⟨_, _, _, _, _, _, _, _, _, _, _, _, _, _, _, _, rfl, _⟩ := h; rfl) | (obtain ⟨_, _, _, _, _, _, _, _, _, _, _, _, _, _, _, _, _, rfl, _⟩ := h; rfl) | (obtain ⟨_, _, _, _, _, _, _, _, _, _, _, _, _, _, _, _, _, _, rfl, _⟩ := h; rfl) | (obtain ⟨_, _, _, _, _, _, _, _, _, _, _, _, _, _, _, _, _, _, _, rfl, _⟩ := h; rfl) | (obtain ⟨_, _, _, _, _, _, _, _, _, _, _, _, _, _, _, _, _, _, _, _, rfl, _⟩ := h; rfl) | (obtain ⟨_, _, _, _, _, _, _, _, _, _, _, _, _, _, _, _, _, _, _, _, _, rfl, _⟩ := h; rfl)) (fun cdv Ar outer s H vs Q E hr h => ?_)
  obtain ⟨g, rfl, h1, h2, h3, h4, q⟩ := h
  refine ⟨_, (pss_cons (ps_if (PW.pt (pw_or (pt_not (pt_val (pe_callB (call_isiK0 (K := K)) (by rfl) T.n_isinstance (by decide +kernel) (pa_cons (pv 0) (pa_cons (pe_bltn (v := .ty "str") (by rfl) T.n_str (by decide +kernel) rfl) pa_nil))))) (pw_or1 (pt_not (pt_chain op_le op_le pe_int (pe_callB call_len_str (by rfl) T.n_len PySem.boot_len (pa_cons (pv 0) pa_nil)) (pe_glob (v := .int 40) rfl T.c_MOST_SIGNS ⟨_, rfl⟩)))))) (pss_one (ps_ret pe_bl))
      pss_nil)
      (pss_cons (ps_for PassesOwn.never rfl (pi_str (pv 0)) (pg_name (i := 1) sc_good_signs.nd rfl (Or.inl rfl))
      (pss_one (ps_if (PW.pt (pw_or (pt_not (pt_chain op_le op_le pe_int (pe_callB call_ord (by rfl) T.n_ord (by decide +kernel) (pa_cons (pv 1) pa_nil)) pe_int)) (pw_or1 (pt_cmpR op_gt (pe_bmK (K := K) PySem.F.plainAttrs_str PySem.F.slot_str_count PySem.F.type_str_count mt_count (pv 0) (pa_cons (pv 1) pa_nil)) pe_int (nomark _))))) (pss_one (ps_ret pe_bl))
      pss_nil)))
      (pss_one (ps_ret pe_bl)))), ?_⟩
  refine w_start (σ' := [some _, none]) rfl ?_
  try dsimp only [cxOf, Cx.nox, Cx.wish]
  walk_at "ss"
  refine w_lenX (Nat.le_trans h2 (by decide)) ?_
  rw [S_len]
  walk_at "ss"
  refine w_ite (fun _ => ?_) (fun h => by omega)
  walk_at "ss"
  refine w_iteN (fun h => by omega) (fun _ => ?_)
  walk_at "ss"
  refine for_it walk_S (fun i σ' H' => (∃ u, σ' = [some (.str (S g)), u]) ∧ H = H') ⟨⟨_, rfl⟩, rfl⟩ (fun _ _ _ _ _ => trivial) (fun i x σ' H' H3 hi p y => ?_) (fun σ' H' p => ?_)
  · obtain ⟨rfl, c, hc, rfl⟩ := y
    obtain ⟨⟨u, rfl⟩, rfl⟩ := p
    have hm := List.mem_of_getElem? hc
    have hp := h4 c hm
    walk_at "ss"
    refine w_ord (by rw [S_len]; rfl) ?_
    rw [ord_S]
    walk_at "ss"
    refine w_ite (fun _ => ?_) (fun h => by omega)
    walk_at "ss"
    refine w_iteN (fun h => by omega) (fun _ => ?_)
    walk_at "ss"
    rw [count_X]
    have hn := (List.nodup_iff_count.mp h3) c
    walk_at "ss"
    refine w_ite (fun h => by omega) (fun _ => ?_)
    walk_at "ss"
    exact ⟨⟨_, rfl⟩, rfl⟩
  · obtain ⟨⟨u, rfl⟩, rfl⟩ := p
    walk_at "ss"
    exact q
end
theorem sc_Book_init : FnScope ["self", "signs", "size", "cap"] ["self", "signs", "size", "cap"] (defScope s_Book_init) := ⟨rfl, rfl, rfl, by decide +kernel, rfl, by decide +kernel, by decide +kernel⟩
section
variable {P : Program} {w : World} {K : PySem.W.Frag} {mg : Str → Option Value} {base : Heap} {A : Adr}
def sp_Book_init (C : Addr) : L2.Sp := fun vs H Q _ => ∃ (p dx : Addr) (g : List Nat) (z : Nat) (cap : Int), vs = [.ref p, .str (S g), .int (z : Int), .int cap] ∧ H p = some (.ins C dx []) ∧ BookOk g z cap ∧ ∀ H', SameP p H H' → BookAt C H' p g z cap → Q .non H'
/-- Book(..) -/
theorem u_Book {C : Addr} {H : Hp} {Q : VK} {E : XK} {g : List Nat} {z : Nat} {cap : Int} (b : BookOk g z cap) (q : ∀ p H', Same H H' → H p = none → BookAt C H' p g z cap → Q (.ref p) H') : MadeQ C (sp_Book_init C) E [.str (S g), .int (z : Int), .int cap] Q H :=
  w_made fun x dx H2 s2 hx h2 => ⟨x, dx, g, z, cap, rfl, h2, b, fun H' s' k => ⟨rfl, q x H' (s'.same s2 hx) hx k⟩⟩
theorem ok_Book_init (T : Txt K mg A) : FnOk P w K mg base CX0 2 A.f_Book_init A.d_Book_init ["self", "signs", "size", "cap"] (sp_Book_init A.C_Book) := by
  have G_good_signs := ok_good_signs (P := P) (w := w) (base := base) T
  have G_whole := ok_whole (P := P) (w := w) (base := base) T
  refine T.F_Book_init.ok sc_Book_init (fun vs H Q E h => by first | (obtain ⟨rfl, _⟩ := h; rfl) | (obtain ⟨_, rfl, _⟩ := h; rfl) | (obtain ⟨_, _, rfl, _⟩ := h; rfl) | (obtain ⟨_, _, _, rfl, _⟩ := h; rfl) | (obtain ⟨_, _, _, _, rfl, _⟩ := h; rfl) | (obtain ⟨_, _, _, _, _, rfl, _⟩ := h; rfl) | (obtain ⟨_, _, _, _, _, _, rfl, _⟩ := h; rfl) | (obtain ⟨_, _, _, _, _, _, _, rfl, _⟩ := h; rfl) | (obtain ⟨_, _, _, _, _, _, _, _, rfl, _⟩ := h; rfl) | (obtain ⟨_, _, _, _, _, _, _, _, _, rfl, _⟩ := h; rfl) | (obtain ⟨_, _, _, _, _, _, _, _, _, _, rfl, _⟩ := h; rfl) | (obtain ⟨_, _, _, _, _, _, _, _, _, _, _, rfl, _⟩ := h; rfl) | (obtain ⟨_, _, _, _, _, _, _, _, _, _, _, _, rfl, _⟩ := h; rfl) | (obtain ⟨_, _, _, _, _, _, _, _, _, _, _, _, _, rfl, _⟩ := h; rfl) | (obtain ⟨_, _, _, _, _, _, _, _, _, _, _, _, _, _, rfl, _⟩ := h; rfl) | (obtain ⟨_, _, _, _, _, _, _, _, _, _, _, _, _, _, _, rfl, _⟩ := h; rfl) | (obtain ⟨_, _, _, _, _, _, _, _, _, _, _, _, _, _, _, _, rfl, _⟩ := h; rfl) | (obtain ⟨_, _, _, _, _, _, _, _, _, _, _, _, _, _, _, _, _, rfl, _⟩ := h; rfl) | (obtain ⟨_, _, _, _, _, _, _, _, _, _, _, _, _, _, _, _, _, _, rfl, _⟩ := h; rfl) | (obtain ⟨_, _, _, _, _, _, _, _, _, _, _, _, _, _, _, _, _, _, _, rfl, _⟩ := h; rfl) | (obtain ⟨_, _, _, _, _, _, _, _, _, _, _, _, _, _, _, _, _, _, _, _, rfl, _⟩ := h; rfl) | (obtain ⟨_, _, _, _, _, _, _, _, _, _, _, _, _, _, _, _, _, _, _, _, _, rfl, _⟩ := h; rfl)) (fun cdv Ar outer s H vs Q E hr h => ?_)
  obtain ⟨p, dx, g, z, cap, rfl, hp, b, q⟩ := h
  have hr_good_signs := hr.mono (by decide : 1 ≤ 1)
  have hr_whole := hr.mono (by decide : 1 ≤ 1)
  have na_Book_cap := T.na_Book_cap
  have na_Book_signs := T.na_Book_signs
  have na_Book_size := T.na_Book_size
  have cl_Book := T.cl_Book
  refine ⟨_, (pss_cons (ps_if (pt_not (pt_val (pe_call G_good_signs hr_good_signs rfl T.g_good_signs T.F_good_signs.kp T.b_good_signs .nil pass0 (pa_cons (pv 1) pa_nil)))) (pss_one ps_never)
      pss_nil)
      (pss_cons (ps_if (pt_not (pt_val (pe_call G_whole hr_whole rfl T.g_whole T.F_whole.kp T.b_whole .nil pass0 (pa_cons (pv 2) (pa_cons pe_int (pa_cons (pe_glob (v := .int 99) rfl T.c_MOST_SIZE ⟨_, rfl⟩) pa_nil)))))) (pss_one ps_never)
      pss_nil)
      (pss_cons (ps_if (pt_not (pt_val (pe_call G_whole hr_whole rfl T.g_whole T.F_whole.kp T.b_whole .nil pass0 (pa_cons (pv 3) (pa_cons (pe_callB call_len_str (by rfl) T.n_len PySem.boot_len (pa_cons (pv 1) pa_nil)) (pa_cons (pe_glob (v := .int 1000000) rfl T.c_MOST_CAP ⟨_, rfl⟩) pa_nil)))))) (pss_one ps_never)
      pss_nil)
      (pss_cons (ps_fldK (K := K) (pv 0) (pv 1))
      (pss_cons (ps_fldK (K := K) (pv 0) (pv 2))
      (pss_one (ps_fldK (K := K) (pv 0) (pv 3)))))))), ?_⟩
  refine w_start (σ' := [some _, some _, some _, some _]) rfl ?_
  try dsimp only [cxOf, Cx.nox, Cx.wish]
  walk_at "ss"
  refine u_good_signs b.one b.few b.nd b.plain ?_
  walk_at "ss"
  refine u_wholeI ?_
  walk_at "ss"
  have z1 := b.z1
  have z2 := b.z2
  rw [decide_eq_true (show (1 : Int) ≤ (z : Int) by omega), decide_eq_true (show (z : Int) ≤ 99 by omega), Bool.true_and]
  walk_at "ss"
  refine w_lenX (Nat.le_trans b.few (by decide)) ?_
  rw [S_len]
  walk_at "ss"
  refine u_wholeI ?_
  rw [decide_eq_true b.c1, decide_eq_true b.c2, Bool.true_and]
  walk_at "ss"
  walk_at "put"
  intro H1 s1 h1
  walk_at "ss"
  walk_at "put"
  intro H2 s2 h2
  walk_at "ss"
  walk_at "put"
  intro H3 s3 h3
  walk_at "ss"
  exact q _ (s1.trans (s2.trans s3)) ⟨dx, h3⟩
end
theorem sc_report : FnScope ["book", "text", "packer", "found", "at", "shares"] ["book", "text"] (defScope s_report) := ⟨rfl, rfl, rfl, by decide +kernel, rfl, by decide +kernel, by decide +kernel⟩
section
variable {P : Program} {w : World} {K : PySem.W.Frag} {mg : Str → Option Value} {base : Heap} {A : Adr}
def sp_report (CB CS : Addr) : L2.Sp := fun vs H Q E => ∃ (b0 : Addr) (w0 : List Nat), vs = [.ref b0, .str (S w0)] ∧ (BadSg CB CS H E b0 w0 ∨ ∃ (b : Addr) (g : List Nat) (z : Nat) (cap : Int) (w : List Nat), b = b0 ∧ w = w0 ∧ BookAt CB H b g z cap ∧ BookOk g z cap ∧ (∀ c ∈ w, c ∈ g) ∧ w.length ≤ 1000 ∧ ∀ H' pf xs, Same H H' → H pf = none → H' pf = some (.lst xs) → RepIn (· ≠ pf) H' xs (reportL g z cap w.length (onesL g) w) → Q (.ref pf) H')
theorem u_report {CB CS : Addr} {H : Hp} {Q : VK} {E : XK} {b : Addr} {g : List Nat} {z : Nat} {cap : Int} {w : List Nat} (hb : BookAt CB H b g z cap) (bk : BookOk g z cap) (hw : ∀ c ∈ w, c ∈ g) (lw : w.length ≤ 1000) (q : ∀ H' pf xs, Same H H' → H pf = none → H' pf = some (.lst xs) → RepIn (· ≠ pf) H' xs (reportL g z cap w.length (onesL g) w) → Q (.ref pf) H') :
    sp_report CB CS [.ref b, .str (S w)] H Q E := ⟨_, _, rfl, .inr ⟨b, g, z, cap, w, rfl, rfl, hb, bk, hw, lw, q⟩⟩
theorem u_reportX {CB CS : Addr} {H : Hp} {Q : VK} {E : XK} {b : Addr} {w : List Nat} (h : BadSg CB CS H E b w) : sp_report CB CS [.ref b, .str (S w)] H Q E := ⟨b, w, rfl, .inl h⟩

theorem ok_report (T : Txt K mg A) : FnOk P w K mg base (L2.CX P w) 10 A.f_report A.d_report ["book", "text"] (sp_report A.C_Book A.C_BadSign) := by
  have G_Packer_put := ok_Packer_put (P := P) (w := w) (base := base) T
  have G_need_signs := ok_need_signs (P := P) (w := w) (base := base) T
  have G_Packer_init := ok_Packer_init (P := P) (w := w) (base := base) T
  refine T.F_report.okX sc_report (fun vs H Q E h => by first | (obtain ⟨rfl, _⟩ := h; rfl) | (obtain ⟨_, rfl, _⟩ := h; rfl) | (obtain ⟨_, _, rfl, _⟩ := h; rfl) | (obtain ⟨_, _, _, rfl, _⟩ := h; rfl) | (obtain ⟨_, _, _, _, rfl, _⟩ := h; rfl) | (obtain ⟨_, _, _, _, _, rfl, _⟩ := h; rfl) | (obtain ⟨_, _, _, _, _, _, rfl, _⟩ := h; rfl) | (obtain ⟨_, _, _, _, _, _, _, rfl, _⟩ := h; rfl) | (obtain ⟨_, _, _, _, _, _, _, _, rfl, _⟩ := h; rfl) | (obtain ⟨_, _, _, _, _, _, _, _, _, rfl, _⟩ := h; rfl) | (obtain ⟨_, _, _, _, _, _, _, _, _, _, rfl, _⟩ := h; rfl) | (obtain ⟨_, _, _, _, _, _, _, _, _, _, _, rfl, _⟩ := h; rfl) | (obtain ⟨_, _, _, _, _, _, _, _, _, _, _, _, rfl, _⟩ := h; rfl) | (obtain ⟨_, _, _, _, _, _, _, _, _, _, _, _, _, rfl, _⟩ := h; rfl) | (obtain ⟨_, _, _, _, _, _, _, _, _, _, _, _, _, _, rfl, _⟩ := h; rfl) | (obtain ⟨_, _, _, _, _, _, _, _, _, _, _, _, _, _, _, rfl, _⟩ := h; rfl) | (obtain ⟨_, _, _, _, _, _, _, _, _, _, _, _, _, _, _, _, rfl, _⟩ := h; rfl) | (obtain ⟨_, _, _, _, _, _, _, _, _, _, _, _, _, _, _, _, _, rfl, _⟩ := h; rfl) | (obtain ⟨_, _, _, _, _, _, _, _, _, _, _, _, _, _, _, _, _, _, rfl, _⟩ := h; rfl) | (obtain ⟨_, _, _, _, _, _, _, _, _, _, _, _, _, _, _, _, _, _, _, rfl, _⟩ := h; rfl) | (obtain ⟨_, _, _, _, _, _, _, _, _, _, _, _, _, _, _, _, _, _, _, _, rfl, _⟩ := h; rfl) | (obtain ⟨_, _, _, _, _, _, _, _, _, _, _, _, _, _, _, _, _, _, _, _, _, rfl, _⟩ := h; rfl)) (fun cdv Ar outer s H vs Q E hr h => ?_)
  obtain ⟨b0, w0, rfl, h⟩ := h
  have hr_Packer_put := hr.mono (by decide : 7 ≤ 9)
  have hr_need_signs := hr.mono (by decide : 1 ≤ 9)
  have hm_Packer_init := hr.mono (by decide : 8 + 1 ≤ 9)
  have na_Book_size := T.na_Book_size
  have na_Learner_shares := T.na_Learner_shares
  have na_Packer_learner := T.na_Packer_learner
  have cl_Book := T.cl_Book
  have cl_Learner := T.cl_Learner
  have cl_Packer := T.cl_Packer
  refine ⟨_, (pss_cons (ps_expr (pe_call G_need_signs hr_need_signs rfl T.g_need_signs T.F_need_signs.kp T.b_need_signs .nil (passX (E := E)) (pa_cons (pv 0) (pa_cons (pv 1) pa_nil))))
      (pss_cons (ps_set (i := 2) sc_report.nd rfl (Or.inl rfl) (pe_make T.mk_Packer G_Packer_init hm_Packer_init rfl T.g_Packer T.b_Packer_init .nil pass0 (pa_cons (pv 0) pa_nil)))
      (pss_cons (ps_set (i := 3) sc_report.nd rfl (Or.inl rfl) (pe_lst pa_nil))
      (pss_cons (ps_set (i := 4) sc_report.nd rfl (Or.inl rfl) pe_int)
      (pss_cons (ps_while (passes_of rfl) (pt_cmpR op_lt (pv 4) (pe_callB call_len_str (by rfl) T.n_len PySem.boot_len (pa_cons (pv 1) pa_nil)) (nomark _)) (pss_cons (ps_set (i := 5) sc_report.nd rfl (Or.inl rfl) (pe_callTy (call_listK (K := K)) (by rfl) T.n_list (by decide +kernel) (pa_cons (pe_fldK (K := K) (pe_fldK (K := K) (pv 2))) pa_nil)))
      (pss_cons (ps_expr (pe_bmK (K := K) PySem.F.plainAttrs_list PySem.F.slot_list_append PySem.F.type_list_append mt_append (pv 3) (pa_cons (pe_tup (pa_cons (pv 5) (pa_cons (pe_meth (pv 2) T.cl_Packer T.m_Packer_put G_Packer_put hr_Packer_put T.b_Packer_put .nil (passX (E := E)) (pa_cons (pe_slice sl_str (pv 1) (po_some (pv 4)) (po_some (pe_op op_add (pv 4) (pe_fldK (K := K) (pv 0))))) pa_nil)) pa_nil))) pa_nil)))
      (pss_one (ps_set (i := 4) sc_report.nd rfl (Or.inl rfl) (pe_op op_add (pv 4) (pe_fldK (K := K) (pv 0))))))))
      (pss_one (ps_ret (pv 3)))))))), ?_⟩
  refine w_start (σ' := [some _, some _, none, none, none, none]) rfl ?_
  try dsimp only [cxOf, Cx.nox, Cx.wish]
  rcases h with bad | ⟨b, g, z, cap, w, rfl, rfl, hb, bk, hw, lw, q⟩
  · walk_at "ss"
    exact u_need_signsX bad
  have z1 := bk.z1
  have z2 := bk.z2
  walk_at "ss"
  refine u_need_signs hb hw ?_
  walk_at "ss"
  refine u_Packer hb bk (fun k p H1 s1 hk hp nkp hP hl => ?_)
  have nbp : b ≠ p := let ⟨_, e⟩ := hb; ne_of_none e hp
  walk_at "ss"
  refine w_new (fun pf H2 s2 hpf h2 => ?_)
  walk_at "ss"
  refine w_while (W := fun m σ' H' => ∃ (i : Nat) (xs : List V) (rows : List (List Int × Word)) (f : Nat) (st : List Int × List Nat) (u : Option V), σ' = [some (.ref b), some (.str (S w)), some (.ref k), some (.ref pf), some (.int (i : Int)), u] ∧ m = w.length - i ∧ i ≤ 1100 ∧ Same H H' ∧ BookAt A.C_Book H' b g z cap ∧ PackAt A.C_Packer H' k p b ∧ LearnAt A.C_Learner H' p b st.1 st.2 ∧ StOk g z st ∧ (i < w.length → st.2 = []) ∧
      H' pf = some (.lst xs) ∧ RepIn (· ≠ pf) H' xs rows ∧ reportL g z cap w.length (onesL g) w = rows ++ reportL g z cap f st.1 (w.drop i) ∧ (w.drop i).length ≤ f ∧ rows.length + (w.drop i).length ≤ w.length) (m0 := w.length)
    ⟨0, [], [], w.length, (onesL g, []), none, rfl, rfl, by omega, s1.trans s2, (hb.same s1).same s2, hP.same s2, hl.same s2, ones_ok bk, fun _ => rfl, h2, .nil, rfl, Nat.le_refl _, by simp⟩ ?_
  rintro m σ' H3 ⟨i, xs, rows, f, ⟨ns, wt⟩, u, rfl, rfl, hi1, s3, hb3, hP3, hl3, ok3, hwt, hf3, hR3, eR, hf, hlen⟩
  dsimp only at hl3 hwt eR
  walk_at "ss"
  refine w_lenX (Nat.le_trans lw (by decide)) ?_
  rw [S_len]
  walk_at "ss"
  refine w_ite (fun hlt => ?_) (fun hlt => ?_)
  · have hlt' : i < w.length := by omega
    have ewt := hwt hlt'
    subst ewt
    have hd1 : 1 ≤ (w.drop i).length := by rw [List.length_drop]; omega
    obtain ⟨f', rfl⟩ : ∃ f', f = f' + 1 := ⟨f - 1, by omega⟩
    rw [reportL_step hd1] at eR
    obtain ⟨r1, r2⟩ := run_take (g := g) (cap := cap) (ns := ns) hd1 z1
    obtain ⟨dk, hkk⟩ := id hP3
    obtain ⟨dl, sa, wa, hpp, hsa, hwa⟩ := id hl3.ex
    obtain ⟨db, hbb⟩ := id hb3
    walk_at "ss"
    refine w_new (fun l H4 s4 hl0 h4 => ?_)
    have hkk4 := s4 _ _ hkk
    have hbb4 := s4 _ _ hbb
    have hf4 := s4 _ _ hf3
    walk_at "ss"
    refine w_slS (by rw [S_len]; exact Nat.le_trans lw (by decide)) ?_
    rw [cutS_mid (Nat.le_of_lt hlt')]
    walk_at "ss"
    refine u_put (st := (ns, [])) (hP3.same s4) (hl3.same s4) (hb3.same s4) bk ok3 nbp nkp (fun c hc => hw c (List.mem_of_mem_drop (List.mem_of_mem_take hc))) (by rw [List.length_take, List.length_drop]; omega) (fun H5 s5 hl5 => ?_)
    rw [r1]
    have ok5 := runS_ok bk (w := (w.drop i).take z) ok3
    have hpp4 := s4 _ _ hpp
    have hf5 := s5.at' hf4 hpp4 (by intro q; cases q)
    have h5 := s5.at' h4 hpp4 (by intro q; cases q)
    have hR5 := (hR3.same s4).but s5 hpp4
    have hb5 := (hb3.same s4).but s5 nbp
    have hP5 := (hP3.same s4).but s5 nkp
    have nlf : l ≠ pf := Ne.symm (ne_of_none hf3 hl0)
    walk_at "ss"
    refine w_new (fun t H6 s6 ht0 h6 => ?_)
    have hf6 := s6 _ _ hf5
    have lx : xs.length = rows.length := hR3.length
    walk_at "ss"
    refine w_app hf6 (by rw [lx]; exact Nat.lt_of_le_of_lt (show _ ≤ 1000 by omega) (by decide)) ?_
    have ld : (w.drop (i + z)).length = (w.drop i).length - z := by rw [List.length_drop, List.length_drop]; omega
    have sH6 : Same H H6 := (s5.same (s3.trans s4) hp).trans s6
    have hpf0 : H pf = none := s1.free hpf
    have row : RepIn (· ≠ pf) H6 [V.ref t] [(ns, packF g ns ((w.drop i).take z))] := .cons ⟨t, l, rfl, nlf, h6, s6 _ _ h5⟩ .nil
    have hR6 : RepIn (· ≠ pf) H6 (xs ++ [V.ref t]) (rows ++ [(ns, packF g ns ((w.drop i).take z))]) := paired_app (hR5.same s6) row
    have hbX := (hb5.same s6).put (zs := xs ++ [V.ref t]) hf6
    obtain ⟨dbX, hbbX⟩ := id hbX
    walk_at "ss"
    refine ⟨w.length - (i + z), by omega, i + z, xs ++ [V.ref t], rows ++ [(ns, packF g ns ((w.drop i).take z))], f', runS g z cap (ns, []) ((w.drop i).take z), some (.ref l), ?_, rfl, by omega, same_mut0 sH6 hpf0, hbX, (hP5.same s6).put hf6, (hl5.same s6).put ok5.good hf6 hR5.refs, ok5, fun h => ?_, upd_same, hR6.put hf6 (fun _ h => h), ?_, by omega, by rw [List.length_append, List.length_singleton]; omega⟩
    · rw [Int.natCast_add]
      rfl
    · rw [r2 (by rw [List.length_drop, List.length_drop]; omega)]
    · rw [eR, List.append_assoc, List.singleton_append, List.drop_drop]
      by_cases h : 1 ≤ ((w.drop i).drop z).length
      · rw [r2 h]
      · have e : w.drop (i + z) = [] := List.length_eq_zero_iff.mp (by rw [← List.drop_drop]; omega)
        rw [e, reportL_nil, reportL_nil]
  · have e : w.drop i = [] := List.length_eq_zero_iff.mp (by rw [List.length_drop]; omega)
    rw [e, reportL_nil, List.append_nil] at eR
    rw [← eR] at hR3
    walk_at "ss"
    exact q _ _ _ s3 (s1.free hpf) hf3 hR3
end
theorem sc_written : FnScope ["book", "text", "bits", "many"] ["book", "text"] (defScope s_written) := ⟨rfl, rfl, rfl, by decide +kernel, rfl, by decide +kernel, by decide +kernel⟩
section
variable {P : Program} {w : World} {K : PySem.W.Frag} {mg : Str → Option Value} {base : Heap} {A : Adr}
def sp_written (CB CS : Addr) : L2.Sp := fun vs H Q E => ∃ (b0 : Addr) (w0 : List Nat), vs = [.ref b0, .str (S w0)] ∧ (BadSg CB CS H E b0 w0 ∨ ∃ (b : Addr) (g : List Nat) (z : Nat) (cap : Int) (w : List Nat), b = b0 ∧ w = w0 ∧ BookAt CB H b g z cap ∧ BookOk g z cap ∧ (∀ c ∈ w, c ∈ g) ∧ w.length ≤ 1000 ∧ ∀ H', Same H H' → Q (.str (S (TL.numL w.length ++ 32 :: packS g z cap (st0 g) w))) H')
theorem u_written {CB CS : Addr} {H : Hp} {Q : VK} {E : XK} {b : Addr} {g : List Nat} {z : Nat} {cap : Int} {w : List Nat} (hb : BookAt CB H b g z cap) (bk : BookOk g z cap) (hw : ∀ c ∈ w, c ∈ g) (lw : w.length ≤ 1000) (q : ∀ H', Same H H' → Q (.str (S (TL.numL w.length ++ 32 :: packS g z cap (st0 g) w))) H') : sp_written CB CS [.ref b, .str (S w)] H Q E := ⟨_, _, rfl, .inr ⟨b, g, z, cap, w, rfl, rfl, hb, bk, hw, lw, q⟩⟩
theorem u_writtenX {CB CS : Addr} {H : Hp} {Q : VK} {E : XK} {b : Addr} {w : List Nat} (h : BadSg CB CS H E b w) : sp_written CB CS [.ref b, .str (S w)] H Q E := ⟨b, w, rfl, .inl h⟩

theorem ok_written (T : Txt K mg A) : FnOk P w K mg base (L2.CX P w) 11 A.f_written A.d_written ["book", "text"] (sp_written A.C_Book A.C_BadSign) := by
  have G_pack := ok_pack (P := P) (w := w) (base := base) T
  refine T.F_written.okX sc_written (fun vs H Q E h => by first | (obtain ⟨rfl, _⟩ := h; rfl) | (obtain ⟨_, rfl, _⟩ := h; rfl) | (obtain ⟨_, _, rfl, _⟩ := h; rfl) | (obtain ⟨_, _, _, rfl, _⟩ := h; rfl) | (obtain ⟨_, _, _, _, rfl, _⟩ := h; rfl) | (obtain ⟨_, _, _, _, _, rfl, _⟩ := h; rfl) | (obtain ⟨_, _, _, _, _, _, rfl, _⟩ := h; rfl) | (obtain ⟨_, _, _, _, _, _, _, rfl, _⟩ := h; rfl) | (obtain ⟨_, _, _, _, _, _, _, _, rfl, _⟩ := h; rfl) | (obtain ⟨_, _, _, _, _, _, _, _, _, rfl, _⟩ := h; rfl) | (obtain ⟨_, _, _, _, _, _, _, _, _, _, rfl, _⟩ := h; rfl) | (obtain ⟨_, _, _, _, _, _, _, _, _, _, _, rfl, _⟩ := h; rfl) | (obtain ⟨_, _, _, _, _, _, _, _, _, _, _, _, rfl, _⟩ := h; rfl) | (obtain ⟨_, _, _, _, _, _, _, _, _, _, _, _, _, rfl, _⟩ := h; rfl) | (obtain ⟨_, _, _, _, _, _, _, _, _, _, _, _, _, _, rfl, _⟩ := h; rfl) | (obtain ⟨_, _, _, _, _, _, _, _, _, _, _, _, _, _, _, rfl, _⟩ := h; rfl) | (obtain ⟨_, _, _, _, _, _, _, _, _, _, _, _, _, _, _, _, rfl, _⟩ := h; rfl) | (obtain ⟨_, _, _, _, _, _, _, _, _, _, _, _, _, _, _, _, _, rfl, _⟩ := h; rfl) | (obtain ⟨_, _, _, _, _, _, _, _, _, _, _, _, _, _, _, _, _, _, rfl, _⟩ := h; rfl) | (obtain ⟨_, _, _, _, _, _, _, _, _, _, _, _, _, _, _, _, _, _, _, rfl, _⟩ := h; rfl) | (obtain ⟨_, _, _, _, _, _, _, _, _, _, _, _, _, _, _, _, _, _, _, _, rfl, _⟩ := h; rfl) | (obtain ⟨_, _, _, _, _, _, _, _, _, _, _, _, _, _, _, _, _, _, _, _, _, rfl, _⟩ := h; rfl)) (fun cdv Ar outer s H vs Q E hr h => ?_)
  obtain ⟨b0, w0, rfl, h⟩ := h
  have hr_pack := hr.mono (by decide : 10 ≤ 10)
  refine ⟨_, (pss_cons (ps_set (i := 2) sc_written.nd rfl (Or.inl rfl) (pe_call G_pack hr_pack rfl T.g_pack T.F_pack.kp T.b_pack .nil (passX (E := E)) (pa_cons (pv 0) (pa_cons (pv 1) pa_nil))))
      (pss_cons (ps_set (i := 3) sc_written.nd rfl (Or.inl rfl) (pe_callB call_len_str (by rfl) T.n_len PySem.boot_len (pa_cons (pv 1) pa_nil)))
      (pss_one (ps_ret (pe_joinedX (PJ.cons (pe_fmt (pv 3)) (PJ.cons pe_str (PJ.cons (pe_fmt (pv 2)) PJ.nil)))))))), ?_⟩
  refine w_start (σ' := [some _, some _, none, none]) rfl ?_
  try dsimp only [cxOf, Cx.nox, Cx.wish]
  rcases h with bad | ⟨b, g, z, cap, w, rfl, rfl, hb, bk, hw, lw, q⟩
  · walk_at "ss"
    exact u_packX bad
  have lp := (packS_bits bk (ones_ok bk) hw).2
  have ln := (num_fig (n := w.length) (by omega)).2.1
  walk_at "ss"
  refine u_pack hb bk hw lw (fun H1 s1 => ?_)
  walk_at "ss"
  refine w_lenX (Nat.le_trans lw (by decide)) ?_
  rw [S_len]
  walk_at "ss"
  refine w_fmtI (by omega) ?_
  rw [num_S, str_e]
  refine w_jS (a := []) (b := TL.numL w.length) (by rw [List.length_nil]; exact Nat.le_trans (show _ ≤ 4 by omega) (by decide)) ?_
  rw [S_cat, List.nil_append]
  walk_at "ss"
  rw [str_blank]
  refine w_jT (a := TL.numL w.length) (b := [32]) (by rw [List.length_singleton]; exact Nat.le_trans (show _ ≤ 5 by omega) (by decide)) ?_
  rw [S_cat]
  walk_at "ss"
  refine w_fmtS (Nat.le_trans (show (packS g z cap (onesL g, []) w).length ≤ 39000 by omega) (by decide)) ?_
  refine w_jS (a := TL.numL w.length ++ [32]) (b := packS g z cap (st0 g) w) (by rw [List.length_append, List.length_singleton]; exact Nat.le_trans (show (TL.numL w.length).length + 1 + (packS g z cap (onesL g, []) w).length ≤ 39005 by omega) (by decide)) ?_
  rw [S_cat, List.append_assoc, List.singleton_append]
  walk_at "ss"
  exact q H1 s1
end
theorem sc_law_cell_at : FnScope ["_law_script", "_law_k"] ["_law_script", "_law_k"] (defScope s_law_cell_at) := ⟨rfl, rfl, rfl, by decide +kernel, rfl, by decide +kernel, by decide +kernel⟩
section
variable {P : Program} {w : World} {K : PySem.W.Frag} {mg : Str → Option Value} {base : Heap} {A : Adr}
def sp_cell_at (K : PySem.W.Frag) : L2.Sp := fun vs H Q _ => ∃ (a : Addr) (ns : List Int) (k : Int), vs = [.ref a, .int k] ∧ SqL K H a (ns.map V.int) ∧ 0 ≤ k ∧ Q (.int (cellAt ns k)) H
theorem u_cell_at {H : Hp} {Q : VK} {E : XK} {a : Addr} {ns : List Int} {k : Int} (h : SqL K H a (ns.map V.int)) (hk : 0 ≤ k) (q : Q (.int (cellAt ns k)) H) : sp_cell_at K [.ref a, .int k] H Q E := ⟨a, ns, k, rfl, h, hk, q⟩
theorem ok_law_cell_at (T : Txt K mg A) : FnOk P w K mg base CX0 1 A.f_law_cell_at A.d_law_cell_at ["_law_script", "_law_k"] (sp_cell_at K) := by
  refine T.F_law_cell_at.ok sc_law_cell_at (fun vs H Q E h => by first | (obtain ⟨rfl, _⟩ := h; rfl) | (obtain ⟨_, rfl, _⟩ := h; rfl) | (obtain ⟨_, _, rfl, _⟩ := h; rfl) | (obtain ⟨_, _, _, rfl, _⟩ := h; rfl) | (obtain ⟨_, _, _, _, rfl, _⟩ := h; rfl) | (obtain ⟨_, _, _, _, _, rfl, _⟩ := h; rfl) | (obtain ⟨_, _, _, _, _, _, rfl, _⟩ := h; rfl) | (obtain ⟨_, _, _, _, _, _, _, rfl, _⟩ := h; rfl) | (obtain ⟨_, _, _, _, _, _, _, _, rfl, _⟩ := h; rfl) | (obtain ⟨_, _, _, _, _, _, _, _, _, rfl, _⟩ := h; rfl) | (obtain ⟨_, _, _, _, _, _, _, _, _, _, rfl, _⟩ := h; rfl) | (obtain ⟨_, _, _, _, _, _, _, _, _, _, _, rfl, _⟩ := h; rfl) | (obtain ⟨_, _, _, _, _, _, _, _, _, _, _, _, rfl, _⟩ := h; rfl) | (obtain ⟨_, _, _, _, _, _, _, _, _, _, _, _, _, rfl, _⟩ := h; rfl) | (obtain ⟨_, _, _, _, _, _, _, _, _, _, _, _, _, _, rfl, _⟩ := h; rfl) | (obtain ⟨_, _, _, _, _, _, _, _, _, _, _, _, _, _, _, rfl, _⟩ := h; rfl) | (obtain ⟨_, _, _, _, _, _, _, _, _, _, _, _, _, _, _, _, rfl, _⟩ := h; rfl) | (obtain ⟨_, _, _, _, _, _, _, _, _, _, _, _, _, _, _, _, _, rfl, _⟩ := h; rfl) | (obtain ⟨_, _, _, _, _, _, _, _, _, _, _, _, _, _, _, _, _, _, rfl, _⟩ := h; rfl) | (obtain ⟨_, _, _, _, _, _, _, _, _, _, _, _, _, _, _, _, _, _, _, rfl, _⟩ := h; rfl) | (obtain ⟨_, _, _, _, _, _, _, _, _, _, _, _, _, _, _, _, _, _, _, _, rfl, _⟩ := h; rfl) | (obtain ⟨_, _, _, _, _, _, _, _, _, _, _, _, _, _, _, _, _, _, _, _, _, rfl, _⟩ := h; rfl)) (fun cdv Ar outer s H vs Q E hr h => ?_)
  obtain ⟨a, ns, k, rfl, hS, hk, q⟩ := h
  refine ⟨_, (pss_cons (ps_if (pt_cmpR op_lt (pv 1) (pe_callB (call_lenK (K := K)) (by rfl) T.n_len PySem.boot_len (pa_cons (pv 0) pa_nil)) (nomark _)) (pss_one (ps_ret (pe_ix (ix_listK (K := K)) (pv 0) (pv 1) (fun _ _ => rfl))))
      pss_nil)
      (pss_one (ps_ret pe_int))), ?_⟩
  refine w_start (σ' := [some _, some _]) rfl ?_
  try dsimp only [cxOf, Cx.nox, Cx.wish]
  walk_at "ss"
  rw [List.length_map]
  refine w_ite (fun h => ?_) (fun h => ?_)
  · walk_at "ss"
    refine w_ixL hS (atI_int hk h) ?_
    rw [cellAt, if_pos h] at q
    exact q
  · walk_at "ss"
    rw [cellAt, if_neg h] at q
    exact q
end
theorem sc_law_many_by : FnScope ["_law_cell"] ["_law_cell"] (defScope s_law_many_by) := ⟨rfl, rfl, rfl, by decide +kernel, rfl, by decide +kernel, by decide +kernel⟩
section
variable {P : Program} {w : World} {K : PySem.W.Frag} {mg : Str → Option Value} {base : Heap} {A : Adr}
def sp_many_by : L2.Sp := fun vs H Q _ => ∃ c : Int, vs = [.int c] ∧ Q (.int (manyBy c)) H
theorem u_many_by {H : Hp} {Q : VK} {E : XK} {c : Int} (q : Q (.int (manyBy c)) H) : sp_many_by [.int c] H Q E := ⟨c, rfl, q⟩
theorem ok_law_many_by (T : Txt K mg A) : FnOk P w K mg base CX0 1 A.f_law_many_by A.d_law_many_by ["_law_cell"] (sp_many_by) := by
  refine T.F_law_many_by.ok sc_law_many_by (fun vs H Q E h => by first | (obtain ⟨rfl, _⟩ := h; rfl) | (obtain ⟨_, rfl, _⟩ := h; rfl) | (obtain ⟨_, _, rfl, _⟩ := h; rfl) | (obtain ⟨_, _, _, rfl, _⟩ := h; rfl) | (obtain ⟨_, _, _, _, rfl, _⟩ := h; rfl) | (obtain ⟨_, _, _, _, _, rfl, _⟩ := h; rfl) | (obtain ⟨_, _, _, _, _, _, rfl, _⟩ := h; rfl) | (obtain ⟨_, _, _, _, _, _, _, rfl, _⟩ := h; rfl) | (obtain ⟨_, _, _, _, _, _, _, _, rfl, _⟩ := h; rfl) | (obtain ⟨_, _, _, _, _, _, _, _, _, rfl, _⟩ := h; rfl) | (obtain ⟨_, _, _, _, _, _, _, _, _, _, rfl, _⟩ := h; rfl) | (obtain ⟨_, _, _, _, _, _, _, _, _, _, _, rfl, _⟩ := h; rfl) | (obtain ⟨_, _, _, _, _, _, _, _, _, _, _, _, rfl, _⟩ := h; rfl) | (obtain ⟨_, _, _, _, _, _, _, _, _, _, _, _, _, rfl, _⟩ := h; rfl) | (obtain ⟨_, _, _, _, _, _, _, _, _, _, _, _, _, _, rfl, _⟩ := h; rfl) | (obtain ⟨_, _, _, _, _, _, _, _, _, _, _, _, _, _, _, rfl, _⟩ := h; rfl) | (obtain ⟨_, _, _, _, _, _, _, _, _, _, _, _, _, _, _, _, rfl, _⟩ := h; rfl) | (obtain ⟨_, _, _, _, _, _, _, _, _, _, _, _, _, _, _, _, _, rfl, _⟩ := h; rfl) | (obtain ⟨_, _, _, _, _, _, _, _, _, _, _, _, _, _, _, _, _, _, rfl, _⟩ := h; rfl) | (obtain ⟨_, _, _, _, _, _, _, _, _, _, _, _, _, _, _, _, _, _, _, rfl, _⟩ := h; rfl) | (obtain ⟨_, _, _, _, _, _, _, _, _, _, _, _, _, _, _, _, _, _, _, _, rfl, _⟩ := h; rfl) | (obtain ⟨_, _, _, _, _, _, _, _, _, _, _, _, _, _, _, _, _, _, _, _, _, rfl, _⟩ := h; rfl)) (fun cdv Ar outer s H vs Q E hr h => ?_)
  obtain ⟨c, rfl, q⟩ := h
  refine ⟨_, (pss_cons (ps_if (pt_cmpR op_eq (pe_op op_mod (pe_op op_fdiv (pv 0) pe_int) pe_int) pe_int (nomark _)) (pss_one (ps_ret (pe_op op_add pe_int (pe_op op_mod (pe_op op_fdiv (pv 0) pe_int) pe_int))))
      pss_nil)
      (pss_one (ps_ret (pe_op op_add pe_int (pe_op op_mod (pv 0) pe_int))))), ?_⟩
  refine w_start (σ' := [some _]) rfl ?_
  try dsimp only [cxOf, Cx.nox, Cx.wish]
  unfold manyBy at q
  walk_at "ss"
  refine w_iteI (fun h => ?_) (fun h => ?_)
  · walk_at "ss"
    rw [if_pos h] at q
    exact q
  · walk_at "ss"
    rw [if_neg h] at q
    exact q
end
theorem sc_law_signs_by : FnScope ["_law_cell", "_law_many", "_law_some", "_law_step", "_law_k"] ["_law_cell", "_law_many"] (defScope s_law_signs_by) := ⟨rfl, rfl, rfl, by decide +kernel, rfl, by decide +kernel, by decide +kernel⟩
section
variable {P : Program} {w : World} {K : PySem.W.Frag} {mg : Str → Option Value} {base : Heap} {A : Adr}
def sp_signs_by : L2.Sp := fun vs H Q _ => ∃ (c many : Int), vs = [.int c, .int many] ∧ 0 ≤ many ∧ many ≤ 1000 ∧ ∀ H', Same H H' → Q (.str (S (signsBy c many))) H'
theorem u_signs_by {H : Hp} {Q : VK} {E : XK} {c many : Int} (h0 : 0 ≤ many) (h : many ≤ 1000) (q : ∀ H', Same H H' → Q (.str (S (signsBy c many))) H') : sp_signs_by [.int c, .int many] H Q E := ⟨c, many, rfl, h0, h, q⟩
theorem ok_law_signs_by (T : Txt K mg A) : FnOk P w K mg base CX0 1 A.f_law_signs_by A.d_law_signs_by ["_law_cell", "_law_many"] (sp_signs_by) := by
  refine T.F_law_signs_by.ok sc_law_signs_by (fun vs H Q E h => by first | (obtain ⟨rfl, _⟩ := h; rfl) | (obtain ⟨_, rfl, _⟩ := h; rfl) | (obtain ⟨_, _, rfl, _⟩ := h; rfl) | (obtain ⟨_, _, _, rfl, _⟩ := h; rfl) | (obtain ⟨_, _, _, _, rfl, _⟩ := h; rfl) | (obtain ⟨_, _, _, _, _, rfl, _⟩ := h; rfl) | (obtain ⟨_, _, _, _, _, _, rfl, _⟩ := h; rfl) | (obtain ⟨_, _, _, _, _, _, _, rfl, _⟩ := h; rfl) | (obtain ⟨_, _, _, _, _, _, _, _, rfl, _⟩ := h; rfl) | (obtain ⟨_, _, _, _, _, _, _, _, _, rfl, _⟩ := h; rfl) | (obtain ⟨_, _, _, _, _, _, _, _, _, _, rfl, _⟩ := h; rfl) | (obtain ⟨_, _, _, _, _, _, _, _, _, _, _, rfl, _⟩ := h; rfl) | (obtain ⟨_, _, _, _, _, _, _, _, _, _, _, _, rfl, _⟩ := h; rfl) | (obtain ⟨_, _, _, _, _, _, _, _, _, _, _, _, _, rfl, _⟩ := h; rfl) | (obtain ⟨_, _, _, _, _, _, _, _, _, _, _, _, _, _, rfl, _⟩ := h; rfl) | (obtain ⟨_, _, _, _, _, _, _, _, _, _, _, _, _, _, _, rfl, _⟩ := h; rfl) | (obtain ⟨_, _, _, _, _, _, _, _, _, _, _, _, _, _, _, _, rfl, _⟩ := h; rfl) | (obtain ⟨_, _, _, _, _, _, _, _, _, _, _, _, _, _, _, _, _, rfl, _⟩ := h; rfl) | (obtain ⟨_, _, _, _, _, _, _, _, _, _, _, _, _, _, _, _, _, _, rfl, _⟩ := h; rfl) | (obtain ⟨_, _, _, _, _, _, _, _, _, _, _, _, _, _, _, _, _, _, _, rfl, _⟩ := h; rfl) | (obtain ⟨_, _, _, _, _, _, _, _, _, _, _, _, _, _, _, _, _, _, _, _, rfl, _⟩ := h; rfl) | (obtain ⟨_, _, _, _, _, _, _, _, _, _, _, _, _, _, _, _, _, _, _, _, _, rfl, _⟩ := h; rfl)) (fun cdv Ar outer s H vs Q E hr h => ?_)
  obtain ⟨c, many, rfl, h0, hm, q⟩ := h
  refine ⟨_, (pss_cons (ps_set (i := 2) sc_law_signs_by.nd rfl (Or.inr rfl) pe_str)
      (pss_cons (ps_set (i := 2) sc_law_signs_by.nd rfl (Or.inr rfl) (pe_op op_add_str (pv 2) pe_str))
      (pss_cons (ps_set (i := 3) sc_law_signs_by.nd rfl (Or.inr rfl) (pe_op op_add pe_int (pe_op op_mul pe_int (pe_op op_mod (pe_op op_fdiv (pv 0) pe_int) pe_int))))
      (pss_one (ps_ret (pe_bmK (K := K) PySem.F.plainAttrs_str PySem.F.slot_str_join PySem.F.type_str_join (mt_joinK (K := K)) pe_str (pa_cons (pe_lc (own := [("_law_k", 4)]) (g := gName 4) rfl sc_law_signs_by.nd (pi_range1 rfl T.n_range (pa_cons (pv 1) pa_nil)) (blkOk_by (own := [("_law_k", 4)]) (N := ["_law_cell", "_law_many", "_law_some", "_law_step", "_law_k"]) (sc := defScope s_law_signs_by) (by decide +kernel)) (fun _ _ _ _ _ => (pg_name (i := 4) sc_law_signs_by.nd rfl (Or.inl rfl))) (fun _ _ _ _ _ => pts_nil) (fun _ _ _ _ _ => (pe_ix ix_str (pv 2) (pe_op op_mod (pe_op op_add (pv 0) (pe_op op_mul (pv 4) (pv 3))) pe_int) (fun _ _ => rfl)))) pa_nil))))))), ?_⟩
  refine w_start (σ' := [some _, some _, none, none, none]) rfl ?_
  try dsimp only [cxOf, Cx.nox, Cx.wish]
  walk_at "ss"
  refine w_addS (by decide +kernel) ?_
  rw [some_eq]
  walk_at "ss"
  refine lc_pure walk_range0 ((signsBy c many).map fun z => V.str (S [z])) (by rw [List.length_map, signsBy_len]) (Nat.le_trans (show _ ≤ 1000 by omega) (by decide)) (fun _ _ => trivial) (fun i x y H1 H2 R hi hy s1 hx k => ?_) (fun p H' s hp h => ?_)
  · obtain ⟨rfl, rfl⟩ := hx
    obtain ⟨z, hz, rfl⟩ := map_S1 hy
    unfold signsBy at hz
    rw [List.getElem?_map, List.getElem?_range hi] at hz
    cases (Option.some.inj hz)
    walk_at "ss"
    refine ⟨rfl, ?_⟩
    walk_at "ss"
    have hb : (i : Int) < 1000 := by omega
    walk_at "ss"
    rw [show (c + (i : Int) * (1 + 2 * (c / 94 % 23))) % 94 = ((signAt c i : Nat) : Int) by unfold signAt; rw [Int.toNat_of_nonneg (Int.emod_nonneg _ (by decide))]]
    exact w_ixX (by rw [someL_len]; decide) (sign_get c i) (k _ (Same.refl _))
  · walk_at "ss"
    refine w_join ((signsBy c many).map fun z => S [z]) (by rw [List.map_map]; exact SqL.of h) ?_ ?_
    · rw [List.map_map, List.length_map, signsBy_len]
      show ((signsBy c many).map (fun _ => 1)).sum + _ ≤ _
      rw [List.map_const', List.sum_replicate_nat, signsBy_len, str_nil, S_len]
      simp
      omega
    · rw [str_nil, join_signs]
      exact q _ s
end
theorem sc_law_text_by : FnScope ["_law_script", "_law_first", "_law_signs", "_law_size", "_law_more", "_law_cells", "_law_k", "_law_cell"] ["_law_script", "_law_first", "_law_signs", "_law_size"] (defScope s_law_text_by) := ⟨rfl, rfl, rfl, by decide +kernel, rfl, by decide +kernel, by decide +kernel⟩
section
variable {P : Program} {w : World} {K : PySem.W.Frag} {mg : Str → Option Value} {base : Heap} {A : Adr}
def sp_text_by (K : PySem.W.Frag) : L2.Sp := fun vs H Q _ => ∃ (a : Addr) (ns : List Int) (first : Int) (g : List Nat) (size : Nat), vs = [.ref a, .int first, .str (S g), .int (size : Int)] ∧ SqL K H a (ns.map V.int) ∧ 0 ≤ first ∧ 1 ≤ g.length ∧ g.length ≤ 40 ∧ size ≤ 1000 ∧ ∀ H' (w : List Nat), Same H H' → w.length = size → (∀ c ∈ w, c ∈ g) → Q (.str (S w)) H'
theorem u_text_by {H : Hp} {Q : VK} {E : XK} {a : Addr} {ns : List Int} {first : Int} {g : List Nat} {size : Nat} (h : SqL K H a (ns.map V.int)) (h0 : 0 ≤ first) (h1 : 1 ≤ g.length) (h2 : g.length ≤ 40) (h3 : size ≤ 1000) (q : ∀ H' (w : List Nat), Same H H' → w.length = size → (∀ c ∈ w, c ∈ g) → Q (.str (S w)) H') :
    sp_text_by K [.ref a, .int first, .str (S g), .int (size : Int)] H Q E := ⟨a, ns, first, g, size, rfl, h, h0, h1, h2, h3, q⟩
def cellsL (ns : List Int) (first : Int) (size : Nat) : List Int := (List.range size).map fun (k : Nat) => cellAt ns (first + 1 + (k : Int)) + (k : Int) * (cellAt ns first % 5)
def pickL (g : List Nat) (cs : List Int) : List Nat := cs.map fun c => g.getD (c % (g.length : Int)).toNat 0
theorem pick_get {g : List Nat} (h1 : 1 ≤ g.length) (c : Int) : g[(c % (g.length : Int)).toNat]? = some (g.getD (c % (g.length : Int)).toNat 0) := by
  have a0 := Int.emod_nonneg c (show (g.length : Int) ≠ 0 by omega)
  have a1 := Int.emod_lt_of_pos c (show 0 < (g.length : Int) by omega)
  have hlt : (c % (g.length : Int)).toNat < g.length := by omega
  rw [List.getD_eq_getElem?_getD, List.getElem?_eq_getElem hlt]
  rfl
theorem ok_law_text_by (T : Txt K mg A) : FnOk P w K mg base CX0 2 A.f_law_text_by A.d_law_text_by ["_law_script", "_law_first", "_law_signs", "_law_size"] (sp_text_by K) := by
  have G_law_cell_at := ok_law_cell_at (P := P) (w := w) (base := base) T
  refine T.F_law_text_by.ok sc_law_text_by (fun vs H Q E h => by first | (obtain ⟨rfl, _⟩ := h; rfl) | (obtain ⟨_, rfl, _⟩ := h; rfl) | (obtain ⟨_, _, rfl, _⟩ := h; rfl) | (obtain ⟨_, _, _, rfl, _⟩ := h; rfl) | (obtain ⟨_, _, _, _, rfl, _⟩ := h; rfl) | (obtain ⟨_, _, _, _, _, rfl, _⟩ := h; rfl) | (obtain ⟨_, _, _, _, _, _, rfl, _⟩ := h; rfl) | (obtain ⟨_, _, _, _, _, _, _, rfl, _⟩ := h; rfl) | (obtain ⟨_, _, _, _, _, _, _, _, rfl, _⟩ := h; rfl) | (obtain ⟨_, _, _, _, _, _, _, _, _, rfl, _⟩ := h; rfl) | (obtain ⟨_, _, _, _, _, _, _, _, _, _, rfl, _⟩ := h; rfl) | (obtain ⟨_, _, _, _, _, _, _, _, _, _, _, rfl, _⟩ := h; rfl) | (obtain ⟨_, _, _, _, _, _, _, _, _, _, _, _, rfl, _⟩ := h; rfl) | (obtain ⟨_, _, _, _, _, _, _, _, _, _, _, _, _, rfl, _⟩ := h; rfl) | (obtain ⟨_, _, _, _, _, _, _, _, _, _, _, _, _, _, rfl, _⟩ := h; rfl) | (obtain ⟨_, _, _, _, _, _, _, _, _, _, _, _, _, _, _, rfl, _⟩ := h; rfl) | (obtain ⟨_, _, _, _, _, _, _, _, _, _, _, _, _, _, _, _, rfl, _⟩ := h; rfl) | (obtain ⟨_, _, _, _, _, _, _, _, _, _, _, _, _, _, _, _, _, rfl, _⟩ := h; rfl) | (obtain ⟨_, _, _, _, _, _, _, _, _, _, _, _, _, _, _, _, _, _, rfl, _⟩ := h; rfl) | (obtain ⟨_, _, _, _, _, _, _, _, _, _, _, _, _, _, _, _, _, _, _, rfl, _⟩ := h; rfl) | (obtain ⟨_, _, _, _, _, _, _, _, _, _, _, _, _, _, _, _, _, _, _, _, rfl, _⟩ := h; rfl) | (obtain ⟨_, _, _, _, _, _, _, _, _, _, _, _, _, _, _, _, _, _, _, _, _, rfl, _⟩ := h; rfl)) (fun cdv Ar outer s H vs Q E hr h => ?_)
  obtain ⟨a, ns, first, g, size, rfl, hS, h0, h1, h2, h3, q⟩ := h
  have hr_law_cell_at := hr.mono (by decide : 1 ≤ 1)
  refine ⟨_, (pss_cons (ps_set (i := 4) sc_law_text_by.nd rfl (Or.inr rfl) (pe_op op_mod (pe_call G_law_cell_at hr_law_cell_at rfl T.g_law_cell_at T.F_law_cell_at.kp T.b_law_cell_at .nil pass0 (pa_cons (pv 0) (pa_cons (pv 1) pa_nil))) pe_int))
      (pss_cons (ps_setLc (i := 5) (own := [("_law_k", 6)]) (g := gName 6) rfl sc_law_text_by.nd rfl rfl (sw_true rfl rfl rfl (by decide +kernel)) (pi_range1 rfl T.n_range (pa_cons (pv 3) pa_nil)) (blkOk_by (own := [("_law_k", 6)]) (N := ["_law_script", "_law_first", "_law_signs", "_law_size", "_law_more", "_law_cells", "_law_k", "_law_cell"]) (sc := defScope s_law_text_by) (by decide +kernel)) (fun _ _ _ _ _ => (pg_name (i := 6) sc_law_text_by.nd rfl (Or.inl rfl))) (fun _ _ _ _ _ => pts_nil) (fun _ _ _ _ _ => (pe_op op_add (pe_call G_law_cell_at hr_law_cell_at rfl T.g_law_cell_at T.F_law_cell_at.kp T.b_law_cell_at .nil pass0 (pa_cons (pv 0) (pa_cons (pe_op op_add (pe_op op_add (pv 1) pe_int) (pv 6)) pa_nil))) (pe_op op_mul (pv 6) (pv 4)))))
      (pss_one (ps_ret (pe_bmK (K := K) PySem.F.plainAttrs_str PySem.F.slot_str_join PySem.F.type_str_join (mt_joinK (K := K)) pe_str (pa_cons (pe_lc (own := [("_law_cell", 7)]) (g := gName 7) rfl sc_law_text_by.nd (pi_listK (K := K) (pv 5)) (blkOk_by (own := [("_law_cell", 7)]) (N := ["_law_script", "_law_first", "_law_signs", "_law_size", "_law_more", "_law_cells", "_law_k", "_law_cell"]) (sc := defScope s_law_text_by) (by decide +kernel)) (fun _ _ _ _ _ => (pg_name (i := 7) sc_law_text_by.nd rfl (Or.inl rfl))) (fun _ _ _ _ _ => pts_nil) (fun _ _ _ _ _ => (pe_ix ix_str (pv 2) (pe_op op_mod (pv 7) (pe_callB call_len_str (by rfl) T.n_len PySem.boot_len (pa_cons (pv 2) pa_nil))) (fun _ _ => rfl)))) pa_nil)))))), ?_⟩
  refine w_start (σ' := [some _, some _, some _, some _, none, none, none, none]) rfl ?_
  try dsimp only [cxOf, Cx.nox, Cx.wish]
  have m0 := Int.emod_nonneg (cellAt ns first) (show (5 : Int) ≠ 0 by decide)
  have m1 := Int.emod_lt_of_pos (cellAt ns first) (show (0 : Int) < 5 by decide)
  walk_at "ss"
  refine u_cell_at hS h0 ?_
  walk_at "ss"
  rw [Int.toNat_natCast]
  refine lc_pure walk_range0 ((cellsL ns first size).map V.int) (by simp [cellsL]) (Nat.le_trans h3 (by decide)) (fun _ _ => trivial) (fun i x y H1 H2 R hi hy s1 hx k => ?_) (fun p1 H1 s1 hp1 hc => ?_)
  · obtain ⟨rfl, rfl⟩ := hx
    obtain ⟨n, hn, rfl⟩ := map_int hy
    unfold cellsL at hn
    rw [List.getElem?_map, List.getElem?_range hi] at hn
    cases (Option.some.inj hn)
    walk_at "ss"
    refine ⟨rfl, ?_⟩
    walk_at "ss"
    refine u_cell_at (s1.seq hS) (by omega) ?_
    walk_at "ss"
    exact k _ (Same.refl _)
  walk_at "ss"
  have lp : (pickL g (cellsL ns first size)).length = size := by simp [pickL, cellsL]
  refine lc_pure (walk_list (xs := (cellsL ns first size).map V.int)) ((pickL g (cellsL ns first size)).map fun c => V.str (S [c])) (by simp [pickL]) (by rw [List.length_map]; unfold cellsL; rw [List.length_map, List.length_range]; exact Nat.le_trans h3 (by decide)) (fun H' s => s.seq (SqL.of hc)) (fun i x y H2 H3 R hi hy s2 hx k => ?_) (fun p2 H2 s2 hp2 h2 => ?_)
  · obtain ⟨rfl, hx⟩ := hx
    obtain ⟨n, hn, rfl⟩ := map_int hx
    obtain ⟨c, hcc, rfl⟩ := map_S1 hy
    unfold pickL at hcc
    rw [List.getElem?_map, hn] at hcc
    cases (Option.some.inj hcc)
    walk_at "ss"
    refine ⟨rfl, ?_⟩
    walk_at "ss"
    refine w_lenX (Nat.le_trans h2 (by decide)) ?_
    rw [S_len]
    walk_at "ss"
    have a0 := Int.emod_nonneg n (show (g.length : Int) ≠ 0 by omega)
    obtain ⟨j, hj⟩ := Int.eq_ofNat_of_zero_le a0
    have pg := pick_get h1 n
    rw [hj, Int.toNat_natCast] at pg
    dsimp only at k
    rw [hj, Int.toNat_natCast] at k
    rw [hj]
    refine w_ixX (Nat.le_trans h2 (by decide)) pg ?_
    exact k _ (Same.refl _)
  walk_at "ss"
  rw [str_nil]
  refine w_join ((pickL g (cellsL ns first size)).map fun c => S [c]) (SqL.of (by rw [h2, List.map_map]; rfl)) ?_ ?_
  · rw [List.map_map, List.length_map]
    have e : ((pickL g (cellsL ns first size)).map ((fun x => x.length) ∘ fun c => S [c])).sum = size := by
      rw [show ((fun (x : Str) => x.length) ∘ fun c => S [c]) = (fun _ => 1) from rfl, List.map_const', List.sum_replicate_nat, lp]
      simp
    rw [e]
    show size + _ * 0 ≤ _
    omega
  · rw [join_signs]
    refine q _ _ (s1.trans s2) lp (fun c hc => ?_)
    obtain ⟨n, _, rfl⟩ := List.mem_map.mp hc
    exact List.mem_of_getElem? (pick_get h1 n)
end
theorem sc_law_book_by : FnScope ["_law_script", "_law_many", "_law_signs", "_law_size", "_law_cap"] ["_law_script"] (defScope s_law_book_by) := ⟨rfl, rfl, rfl, by decide +kernel, rfl, by decide +kernel, by decide +kernel⟩
section
variable {P : Program} {w : World} {K : PySem.W.Frag} {mg : Str → Option Value} {base : Heap} {A : Adr}
def sp_book_by (K : PySem.W.Frag) : L2.Sp := fun vs H Q _ => ∃ (a : Addr) (ns : List Int), vs = [.ref a] ∧ SqL K H a (ns.map V.int) ∧ ∀ p H' g z cap, Same H H' → H p = none → H' p = some (.tup [.str (S g), .int ((z : Nat) : Int), .int cap]) → BookOk g z cap → (10 ≤ g.length → 9 ≤ z) → Q (.ref p) H'
theorem u_book_by {H : Hp} {Q : VK} {E : XK} {a : Addr} {ns : List Int} (h : SqL K H a (ns.map V.int)) (q : ∀ p H' g z cap, Same H H' → H p = none → H' p = some (.tup [.str (S g), .int ((z : Nat) : Int), .int cap]) → BookOk g z cap → (10 ≤ g.length → 9 ≤ z) → Q (.ref p) H') : sp_book_by K [.ref a] H Q E := ⟨a, ns, rfl, h, q⟩
theorem signs_plain {c many : Int} : ∀ x ∈ signsBy c many, 32 ≤ x ∧ x ≤ 126 := fun x hx => let h := someL_all x (signsBy_mem hx); ⟨h.1, h.2.1⟩
theorem ok_law_book_by (T : Txt K mg A) : FnOk P w K mg base CX0 2 A.f_law_book_by A.d_law_book_by ["_law_script"] (sp_book_by K) := by
  have G_law_cell_at := ok_law_cell_at (P := P) (w := w) (base := base) T
  have G_law_many_by := ok_law_many_by (P := P) (w := w) (base := base) T
  have G_law_signs_by := ok_law_signs_by (P := P) (w := w) (base := base) T
  refine T.F_law_book_by.ok sc_law_book_by (fun vs H Q E h => by first | (obtain ⟨rfl, _⟩ := h; rfl) | (obtain ⟨_, rfl, _⟩ := h; rfl) | (obtain ⟨_, _, rfl, _⟩ := h; rfl) | (obtain ⟨_, _, _, rfl, _⟩ := h; rfl) | (obtain ⟨_, _, _, _, rfl, _⟩ := h; rfl) | (obtain ⟨_, _, _, _, _, rfl, _⟩ := h; rfl) | (obtain ⟨_, _, _, _, _, _, rfl, _⟩ := h; rfl) | (obtain ⟨_, _, _, _, _, _, _, rfl, _⟩ := h; rfl) | (obtain ⟨_, _, _, _, _, _, _, _, rfl, _⟩ := h; rfl) | (obtain ⟨_, _, _, _, _, _, _, _, _, rfl, _⟩ := h; rfl) | (obtain ⟨_, _, _, _, _, _, _, _, _, _, rfl, _⟩ := h; rfl) | (obtain ⟨_, _, _, _, _, _, _, _, _, _, _, rfl, _⟩ := h; rfl) | (obtain ⟨_, _, _, _, _, _, _, _, _, _, _, _, rfl, _⟩ := h; rfl) | (obtain ⟨_, _, _, _, _, _, _, _, _, _, _, _, _, rfl, _⟩ := h; rfl) | (obtain ⟨_, _, _, _, _, _, _, _, _, _, _, _, _, _, rfl, _⟩ := h; rfl) | (obtain ⟨_, _, _, _, _, _, _, _, _, _, _, _, _, _, _, rfl, _⟩ := h; rfl) | (obtain ⟨_, _, _, _, _, _, _, _, _, _, _, _, _, _, _, _, rfl, _⟩ := h; rfl) | (obtain ⟨_, _, _, _, _, _, _, _, _, _, _, _, _, _, _, _, _, rfl, _⟩ := h; rfl) | (obtain ⟨_, _, _, _, _, _, _, _, _, _, _, _, _, _, _, _, _, _, rfl, _⟩ := h; rfl) | (obtain ⟨_, _, _, _, _, _, _, _, _, _, _, _, _, _, _, _, _, _, _, rfl, _⟩ := h; rfl) | (obtain ⟨_, _, _, _, _, _, _, _, _, _, _, _, _, _, _, _, _, _, _, _, rfl, _⟩ := h; rfl) | (obtain ⟨_, _, _, _, _, _, _, _, _, _, _, _, _, _, _, _, _, _, _, _, _, rfl, _⟩ := h; rfl)) (fun cdv Ar outer s H vs Q E hr h => ?_)
  obtain ⟨a, ns, rfl, hS, q⟩ := h
  have hr_law_cell_at := hr.mono (by decide : 1 ≤ 1)
  have hr_law_many_by := hr.mono (by decide : 1 ≤ 1)
  have hr_law_signs_by := hr.mono (by decide : 1 ≤ 1)
  refine ⟨_, (pss_cons (ps_set (i := 1) sc_law_book_by.nd rfl (Or.inl rfl) (pe_call G_law_many_by hr_law_many_by rfl T.g_law_many_by T.F_law_many_by.kp T.b_law_many_by .nil pass0 (pa_cons (pe_call G_law_cell_at hr_law_cell_at rfl T.g_law_cell_at T.F_law_cell_at.kp T.b_law_cell_at .nil pass0 (pa_cons (pv 0) (pa_cons pe_int pa_nil))) pa_nil)))
      (pss_cons (ps_set (i := 2) sc_law_book_by.nd rfl (Or.inl rfl) (pe_call G_law_signs_by hr_law_signs_by rfl T.g_law_signs_by T.F_law_signs_by.kp T.b_law_signs_by .nil pass0 (pa_cons (pe_call G_law_cell_at hr_law_cell_at rfl T.g_law_cell_at T.F_law_cell_at.kp T.b_law_cell_at .nil pass0 (pa_cons (pv 0) (pa_cons pe_int pa_nil))) (pa_cons (pv 1) pa_nil))))
      (pss_cons (ps_set (i := 3) sc_law_book_by.nd rfl (Or.inl rfl) (pe_op op_add pe_int (pe_op op_mod (pe_call G_law_cell_at hr_law_cell_at rfl T.g_law_cell_at T.F_law_cell_at.kp T.b_law_cell_at .nil pass0 (pa_cons (pv 0) (pa_cons pe_int pa_nil))) pe_int)))
      (pss_cut (ps_if (pt_cmpR op_eq (pe_op op_mod (pe_op op_fdiv (pe_call G_law_cell_at hr_law_cell_at rfl T.g_law_cell_at T.F_law_cell_at.kp T.b_law_cell_at .nil pass0 (pa_cons (pv 0) (pa_cons pe_int pa_nil))) pe_int) pe_int) pe_int (nomark _)) (pss_one (ps_set (i := 3) sc_law_book_by.nd rfl (Or.inl rfl) (pe_op op_add pe_int (pe_op op_mod (pe_op op_fdiv (pe_call G_law_cell_at hr_law_cell_at rfl T.g_law_cell_at T.F_law_cell_at.kp T.b_law_cell_at .nil pass0 (pa_cons (pv 0) (pa_cons pe_int pa_nil))) pe_int) pe_int))))
      pss_nil)
      (pss_cut (ps_if (pt_cmpR op_gt (pv 1) pe_int (nomark _)) (pss_one (ps_set (i := 3) sc_law_book_by.nd rfl (Or.inl rfl) (pe_callB (call_max2 rfl) (by rfl) T.n_max (by decide +kernel) (pa_cons (pv 3) (pa_cons pe_int pa_nil)))))
      pss_nil)
      (pss_cons (ps_set (i := 4) sc_law_book_by.nd rfl (Or.inl rfl) (pe_op op_add (pv 1) (pe_op op_mod (pe_call G_law_cell_at hr_law_cell_at rfl T.g_law_cell_at T.F_law_cell_at.kp T.b_law_cell_at .nil pass0 (pa_cons (pv 0) (pa_cons pe_int pa_nil))) pe_int)))
      (pss_cut (ps_if (pt_cmpR op_eq (pe_op op_mod (pe_op op_fdiv (pe_call G_law_cell_at hr_law_cell_at rfl T.g_law_cell_at T.F_law_cell_at.kp T.b_law_cell_at .nil pass0 (pa_cons (pv 0) (pa_cons pe_int pa_nil))) pe_int) pe_int) pe_int (nomark _)) (pss_one (ps_set (i := 4) sc_law_book_by.nd rfl (Or.inl rfl) (pe_op op_add (pv 1) (pe_op op_mod (pe_op op_fdiv (pe_call G_law_cell_at hr_law_cell_at rfl T.g_law_cell_at T.F_law_cell_at.kp T.b_law_cell_at .nil pass0 (pa_cons (pv 0) (pa_cons pe_int pa_nil))) pe_int) (pe_op op_sub pe_int (pv 1))))))
      pss_nil)
      (pss_one (ps_ret (pe_tup (pa_cons (pv 2) (pa_cons (pv 3) (pa_cons (pv 4) pa_nil))))))))))))), ?_⟩
  refine w_start (σ' := [some _, none, none, none, none]) rfl ?_
  try dsimp only [cxOf, Cx.nox, Cx.wish]
  have hm := manyBy_bounds (cellAt ns 0)
  have lenS := signsBy_len (cellAt ns 1) (manyBy (cellAt ns 0))
  have nd := signsBy_nodup (c := cellAt ns 1) (many := manyBy (cellAt ns 0)) (by omega)
  have pl := signs_plain (c := cellAt ns 1) (many := manyBy (cellAt ns 0))
  walk_at "ss"
  refine u_cell_at hS (by decide) ?_
  walk_at "ss"
  refine u_many_by ?_
  walk_at "ss"
  refine u_cell_at hS (by decide) ?_
  walk_at "ss"
  refine u_signs_by (by omega) (by omega) (fun H1 s1 => ?_)
  generalize signsBy (cellAt ns 1) (manyBy (cellAt ns 0)) = g at lenS nd pl
  generalize manyBy (cellAt ns 0) = m at hm lenS
  walk_at "ss"
  refine u_cell_at (by walk_at "look") (by decide) ?_
  walk_at "ss"
  refine w_cut (fun σ' H' => ∃ z : Int, σ' = [some (.ref a), some (.int m), some (.str (S g)), some (.int z), none] ∧ H1 = H' ∧ 1 ≤ z ∧ z ≤ 99) ?_ (fun σ' H' p => ?_)
  · walk_at "ss"
    refine u_cell_at (by walk_at "look") (by decide) ?_
    walk_at "ss"
    refine w_iteI (fun _ => ?_) (fun _ => ?_)
    · walk_at "ss"
      refine u_cell_at (by walk_at "look") (by decide) ?_
      walk_at "ss"
      exact ⟨_, rfl, rfl, by omega, by omega⟩
    · walk_at "ss"
      exact ⟨_, rfl, rfl, by omega, by omega⟩
  obtain ⟨z, rfl, rfl, z1, z2⟩ := p
  refine w_cut (fun σ' H' => ∃ z : Int, σ' = [some (.ref a), some (.int m), some (.str (S g)), some (.int z), none] ∧ H1 = H' ∧ 1 ≤ z ∧ z ≤ 99 ∧ (10 ≤ m → 9 ≤ z)) ?_ (fun σ' H' p => ?_)
  · walk_at "ss"
    refine w_ite (fun _ => ?_) (fun _ => ?_)
    · walk_at "ss"
      refine ⟨_, rfl, rfl, ?_, ?_, ?_⟩ <;> split <;> omega
    · walk_at "ss"
      exact ⟨_, rfl, rfl, by omega, by omega, by omega⟩
  obtain ⟨z, rfl, rfl, z1, z2, z3⟩ := p
  walk_at "ss"
  refine u_cell_at (by walk_at "look") (by decide) ?_
  walk_at "ss"
  refine w_cut (fun σ' H' => ∃ c : Int, σ' = [some (.ref a), some (.int m), some (.str (S g)), some (.int z), some (.int c)] ∧ H1 = H' ∧ m ≤ c ∧ c ≤ 1000000) ?_ (fun σ' H' p => ?_)
  · walk_at "ss"
    refine u_cell_at (by walk_at "look") (by decide) ?_
    walk_at "ss"
    refine w_iteI (fun _ => ?_) (fun _ => ?_)
    · walk_at "ss"
      refine u_cell_at (by walk_at "look") (by decide) ?_
      walk_at "ss"
      have a0 := Int.emod_nonneg (cellAt ns 3 / 48) (show (1000001 - m : Int) ≠ 0 by omega)
      have a1 := Int.emod_lt_of_pos (cellAt ns 3 / 48) (show (0 : Int) < 1000001 - m by omega)
      exact ⟨_, rfl, rfl, by omega, by omega⟩
    · walk_at "ss"
      exact ⟨_, rfl, rfl, by omega, by omega⟩
  obtain ⟨c, rfl, rfl, c1, c2⟩ := p
  walk_at "ss"
  refine w_new (fun p H2 s2 hp h2 => ?_)
  obtain ⟨zn, rfl⟩ := Int.eq_ofNat_of_zero_le (show 0 ≤ z by omega)
  exact q p H2 g zn c (s1.trans s2) (s1.free hp) h2 ⟨by omega, by omega, nd, pl, by omega, by omega, by omega, c2⟩ (by omega)
end
theorem sc_law_kinds : FnScope ["_law_e", "_law_found"] ["_law_e"] (defScope s_law_kinds) := ⟨rfl, rfl, rfl, by decide +kernel, rfl, by decide +kernel, by decide +kernel⟩
section
variable {P : Program} {w : World} {K : PySem.W.Frag} {mg : Str → Option Value} {base : Heap} {A : Adr}
/-- an error that is of just one of the eight classes, and of the two above them -/
structure KindOk (K : PySem.W.Frag) (A : Adr) (D : Addr) : Prop where
  ex : ∃ b1 b2 b3 b4 b5 b6 b7 b8 : Bool, PySem.W.kitOne K (.ref D) (.ref A.C_BadBook) = some b1 ∧ PySem.W.kitOne K (.ref D) (.ref A.C_BadShares) = some b2 ∧ PySem.W.kitOne K (.ref D) (.ref A.C_BadSign) = some b3 ∧ PySem.W.kitOne K (.ref D) (.ref A.C_BadCount) = some b4 ∧
    PySem.W.kitOne K (.ref D) (.ref A.C_BadBit) = some b5 ∧ PySem.W.kitOne K (.ref D) (.ref A.C_Loose) = some b6 ∧ PySem.W.kitOne K (.ref D) (.ref A.C_Short) = some b7 ∧ PySem.W.kitOne K (.ref D) (.ref A.C_BadLine) = some b8 ∧
    (if b1 = true then (1 : Int) else 0) + (if b2 = true then 1 else 0) + (if b3 = true then 1 else 0) + (if b4 = true then 1 else 0) + (if b5 = true then 1 else 0) + (if b6 = true then 1 else 0) + (if b7 = true then 1 else 0) + (if b8 = true then 1 else 0) = 1
  pe : PySem.W.kitOne K (.ref D) (.ref A.C_PackError) = some true
  ve : PySem.W.kitOne K (.ref D) (.type "ValueError") = some true
  x : ExcC K D
def sp_law_kinds (K : PySem.W.Frag) (A : Adr) : L2.Sp := fun vs H Q _ => ∃ (a D : Addr) (oe : Obj), vs = [.ref a] ∧ H a = some (ExO a oe) ∧ Zc (.ref D) none oe ∧ (∃ fs, oe.data = .fields fs) ∧ KindOk K A D ∧ Q (.bl true) H
theorem u_kinds {K : PySem.W.Frag} {A : Adr} {H : Hp} {Q : VK} {E : XK} {a D : Addr} {oe : Obj} (h : H a = some (ExO a oe)) (hz : Zc (.ref D) none oe) (hf : ∃ fs, oe.data = .fields fs) (k : KindOk K A D) (q : Q (.bl true) H) : sp_law_kinds K A [.ref a] H Q E := ⟨a, D, oe, rfl, h, hz, hf, k, q⟩
theorem ok_law_kinds (T : Txt K mg A) : FnE P w K mg base 1 A.f_law_kinds A.d_law_kinds ["_law_e"] (sp_law_kinds K A) := by
  refine T.F_law_kinds.okE sc_law_kinds (fun vs H Q E h => by first | (obtain ⟨rfl, _⟩ := h; rfl) | (obtain ⟨_, rfl, _⟩ := h; rfl) | (obtain ⟨_, _, rfl, _⟩ := h; rfl) | (obtain ⟨_, _, _, rfl, _⟩ := h; rfl) | (obtain ⟨_, _, _, _, rfl, _⟩ := h; rfl) | (obtain ⟨_, _, _, _, _, rfl, _⟩ := h; rfl) | (obtain ⟨_, _, _, _, _, _, rfl, _⟩ := h; rfl) | (obtain ⟨_, _, _, _, _, _, _, rfl, _⟩ := h; rfl) | (obtain ⟨_, _, _, _, _, _, _, _, rfl, _⟩ := h; rfl) | (obtain ⟨_, _, _, _, _, _, _, _, _, rfl, _⟩ := h; rfl) | (obtain ⟨_, _, _, _, _, _, _, _, _, _, rfl, _⟩ := h; rfl) | (obtain ⟨_, _, _, _, _, _, _, _, _, _, _, rfl, _⟩ := h; rfl) | (obtain ⟨_, _, _, _, _, _, _, _, _, _, _, _, rfl, _⟩ := h; rfl) | (obtain ⟨_, _, _, _, _, _, _, _, _, _, _, _, _, rfl, _⟩ := h; rfl) | (obtain ⟨_, _, _, _, _, _, _, _, _, _, _, _, _, _, rfl, _⟩ := h; rfl) | (obtain ⟨_, _, _, _, _, _, _, _, _, _, _, _, _, _, _, rfl, _⟩ := h; rfl) | (obtain ⟨_, _, _, _, _, _, _, _, _, _, _, _, _, _, _, _, rfl, _⟩ := h; rfl) | (obtain ⟨_, _, _, _, _, _, _, _, _, _, _, _, _, _, _, _, _, rfl, _⟩ := h; rfl) | (obtain ⟨_, _, _, _, _, _, _, _, _, _, _, _, _, _, _, _, _, _, rfl, _⟩ := h; rfl) | (obtain ⟨_, _, _, _, _, _, _, _, _, _, _, _, _, _, _, _, _, _, _, rfl, _⟩ := h; rfl) | (obtain ⟨_, _, _, _, _, _, _, _, _, _, _, _, _, _, _, _, _, _, _, _, rfl, _⟩ := h; rfl) | (obtain ⟨_, _, _, _, _, _, _, _, _, _, _, _, _, _, _, _, _, _, _, _, _, rfl, _⟩ := h; rfl)) (fun cdv Ar outer s H vs Q hr h => ?_)
  obtain ⟨a, D, oe, rfl, h, hz, hf, ⟨⟨b1, b2, b3, b4, b5, b6, b7, b8, k1, k2, k3, k4, k5, k6, k7, k8, one⟩, kp, kv, x⟩, q⟩ := h
  refine ⟨_, (pss_cons (ps_set (i := 1) sc_law_kinds.nd rfl (Or.inl rfl) (pe_op op_add (pe_op op_add (pe_callTy call_int1 (by rfl) T.n_int (by decide +kernel) (pa_cons (pe_callB (call_isX (K := K)) (by rfl) T.n_isinstance (by decide +kernel) (pa_cons (pv 0) (pa_cons (pe_glob (v := .ref A.C_BadBook) rfl T.g_BadBook rfl) pa_nil))) pa_nil)) (pe_callTy call_int1 (by rfl) T.n_int (by decide +kernel) (pa_cons (pe_callB (call_isX (K := K)) (by rfl) T.n_isinstance (by decide +kernel) (pa_cons (pv 0) (pa_cons (pe_glob (v := .ref A.C_BadShares) rfl T.g_BadShares rfl) pa_nil))) pa_nil))) (pe_callTy call_int1 (by rfl) T.n_int (by decide +kernel) (pa_cons (pe_callB (call_isX (K := K)) (by rfl) T.n_isinstance (by decide +kernel) (pa_cons (pv 0) (pa_cons (pe_glob (v := .ref A.C_BadSign) rfl T.g_BadSign rfl) pa_nil))) pa_nil))))
      (pss_cons (ps_set (i := 1) sc_law_kinds.nd rfl (Or.inl rfl) (pe_op op_add (pe_op op_add (pe_op op_add (pv 1) (pe_callTy call_int1 (by rfl) T.n_int (by decide +kernel) (pa_cons (pe_callB (call_isX (K := K)) (by rfl) T.n_isinstance (by decide +kernel) (pa_cons (pv 0) (pa_cons (pe_glob (v := .ref A.C_BadCount) rfl T.g_BadCount rfl) pa_nil))) pa_nil))) (pe_callTy call_int1 (by rfl) T.n_int (by decide +kernel) (pa_cons (pe_callB (call_isX (K := K)) (by rfl) T.n_isinstance (by decide +kernel) (pa_cons (pv 0) (pa_cons (pe_glob (v := .ref A.C_BadBit) rfl T.g_BadBit rfl) pa_nil))) pa_nil))) (pe_callTy call_int1 (by rfl) T.n_int (by decide +kernel) (pa_cons (pe_callB (call_isX (K := K)) (by rfl) T.n_isinstance (by decide +kernel) (pa_cons (pv 0) (pa_cons (pe_glob (v := .ref A.C_Loose) rfl T.g_Loose rfl) pa_nil))) pa_nil))))
      (pss_cons (ps_set (i := 1) sc_law_kinds.nd rfl (Or.inl rfl) (pe_op op_add (pe_op op_add (pv 1) (pe_callTy call_int1 (by rfl) T.n_int (by decide +kernel) (pa_cons (pe_callB (call_isX (K := K)) (by rfl) T.n_isinstance (by decide +kernel) (pa_cons (pv 0) (pa_cons (pe_glob (v := .ref A.C_Short) rfl T.g_Short rfl) pa_nil))) pa_nil))) (pe_callTy call_int1 (by rfl) T.n_int (by decide +kernel) (pa_cons (pe_callB (call_isX (K := K)) (by rfl) T.n_isinstance (by decide +kernel) (pa_cons (pv 0) (pa_cons (pe_glob (v := .ref A.C_BadLine) rfl T.g_BadLine rfl) pa_nil))) pa_nil))))
      (pss_one (ps_ret (pe_and (pe_cmpR op_eq (pv 1) pe_int (nomark _)) (pe_and (pe_callB (call_isX (K := K)) (by rfl) T.n_isinstance (by decide +kernel) (pa_cons (pv 0) (pa_cons (pe_glob (v := .ref A.C_PackError) rfl T.g_PackError rfl) pa_nil))) (pe_one (pe_callB (call_isX (K := K)) (by rfl) T.n_isinstance (by decide +kernel) (pa_cons (pv 0) (pa_cons (pe_bltn (v := .ty "ValueError") (by rfl) T.n_ValueError (by decide +kernel) rfl) pa_nil))))))))))), ?_⟩
  refine w_start (σ' := [some _, none]) rfl ?_
  try dsimp only [cxOf, Cx.nox, Cx.wish]
  walk_at "ss"
  refine w_isX h hz hf x k1 ?_
  walk_at "ss"
  refine w_isX h hz hf x k2 ?_
  walk_at "ss"
  refine w_isX h hz hf x k3 ?_
  walk_at "ss"
  refine w_isX h hz hf x k4 ?_
  walk_at "ss"
  refine w_isX h hz hf x k5 ?_
  walk_at "ss"
  refine w_isX h hz hf x k6 ?_
  walk_at "ss"
  refine w_isX h hz hf x k7 ?_
  walk_at "ss"
  refine w_isX h hz hf x k8 ?_
  walk_at "ss"
  refine w_iteK (decide_eq_true (congrArg V.int one)) ?_
  walk_at "ss"
  refine w_isX h hz hf x kp ?_
  walk_at "ss"
  refine w_isXT h hz hf x kv ?_
  walk_at "ss"
  exact q
end
theorem sc_law_told : FnScope ["_law_call", "_law_found", "_law_e"] ["_law_call"] (defScope s_law_told) := ⟨rfl, rfl, rfl, by decide +kernel, rfl, by decide +kernel, by decide +kernel⟩
section
theorem kd_BadBit (T : Txt K mg A) : KindOk K A A.C_BadBit := ⟨⟨_, _, _, _, _, _, _, _, kit_of T.x_BadBook T.s_BadBit_BadBit T.s_BadBit_BadBook, kit_of T.x_BadShares T.s_BadBit_BadBit T.s_BadBit_BadShares, kit_of T.x_BadSign T.s_BadBit_BadBit T.s_BadBit_BadSign, kit_of T.x_BadCount T.s_BadBit_BadBit T.s_BadBit_BadCount, kit_of T.x_BadBit T.s_BadBit_BadBit T.s_BadBit_BadBit, kit_of T.x_Loose T.s_BadBit_BadBit T.s_BadBit_Loose, kit_of T.x_Short T.s_BadBit_BadBit T.s_BadBit_Short, kit_of T.x_BadLine T.s_BadBit_BadBit T.s_BadBit_BadLine, by decide⟩, kit_of T.x_PackError T.s_BadBit_BadBit T.s_BadBit_PackError, kit_ve T.x_BadBit.v, T.x_BadBit.c⟩
theorem kd_BadCount (T : Txt K mg A) : KindOk K A A.C_BadCount := ⟨⟨_, _, _, _, _, _, _, _, kit_of T.x_BadBook T.s_BadCount_BadCount T.s_BadCount_BadBook, kit_of T.x_BadShares T.s_BadCount_BadCount T.s_BadCount_BadShares, kit_of T.x_BadSign T.s_BadCount_BadCount T.s_BadCount_BadSign, kit_of T.x_BadCount T.s_BadCount_BadCount T.s_BadCount_BadCount, kit_of T.x_BadBit T.s_BadCount_BadCount T.s_BadCount_BadBit, kit_of T.x_Loose T.s_BadCount_BadCount T.s_BadCount_Loose, kit_of T.x_Short T.s_BadCount_BadCount T.s_BadCount_Short, kit_of T.x_BadLine T.s_BadCount_BadCount T.s_BadCount_BadLine, by decide⟩, kit_of T.x_PackError T.s_BadCount_BadCount T.s_BadCount_PackError, kit_ve T.x_BadCount.v, T.x_BadCount.c⟩
theorem kd_BadSign (T : Txt K mg A) : KindOk K A A.C_BadSign := ⟨⟨_, _, _, _, _, _, _, _, kit_of T.x_BadBook T.s_BadSign_BadSign T.s_BadSign_BadBook, kit_of T.x_BadShares T.s_BadSign_BadSign T.s_BadSign_BadShares, kit_of T.x_BadSign T.s_BadSign_BadSign T.s_BadSign_BadSign, kit_of T.x_BadCount T.s_BadSign_BadSign T.s_BadSign_BadCount, kit_of T.x_BadBit T.s_BadSign_BadSign T.s_BadSign_BadBit, kit_of T.x_Loose T.s_BadSign_BadSign T.s_BadSign_Loose, kit_of T.x_Short T.s_BadSign_BadSign T.s_BadSign_Short, kit_of T.x_BadLine T.s_BadSign_BadSign T.s_BadSign_BadLine, by decide⟩, kit_of T.x_PackError T.s_BadSign_BadSign T.s_BadSign_PackError, kit_ve T.x_BadSign.v, T.x_BadSign.c⟩
theorem kd_Loose (T : Txt K mg A) : KindOk K A A.C_Loose := ⟨⟨_, _, _, _, _, _, _, _, kit_of T.x_BadBook T.s_Loose_Loose T.s_Loose_BadBook, kit_of T.x_BadShares T.s_Loose_Loose T.s_Loose_BadShares, kit_of T.x_BadSign T.s_Loose_Loose T.s_Loose_BadSign, kit_of T.x_BadCount T.s_Loose_Loose T.s_Loose_BadCount, kit_of T.x_BadBit T.s_Loose_Loose T.s_Loose_BadBit, kit_of T.x_Loose T.s_Loose_Loose T.s_Loose_Loose, kit_of T.x_Short T.s_Loose_Loose T.s_Loose_Short, kit_of T.x_BadLine T.s_Loose_Loose T.s_Loose_BadLine, by decide⟩, kit_of T.x_PackError T.s_Loose_Loose T.s_Loose_PackError, kit_ve T.x_Loose.v, T.x_Loose.c⟩
theorem kd_Short (T : Txt K mg A) : KindOk K A A.C_Short := ⟨⟨_, _, _, _, _, _, _, _, kit_of T.x_BadBook T.s_Short_Short T.s_Short_BadBook, kit_of T.x_BadShares T.s_Short_Short T.s_Short_BadShares, kit_of T.x_BadSign T.s_Short_Short T.s_Short_BadSign, kit_of T.x_BadCount T.s_Short_Short T.s_Short_BadCount, kit_of T.x_BadBit T.s_Short_Short T.s_Short_BadBit, kit_of T.x_Loose T.s_Short_Short T.s_Short_Loose, kit_of T.x_Short T.s_Short_Short T.s_Short_Short, kit_of T.x_BadLine T.s_Short_Short T.s_Short_BadLine, by decide⟩, kit_of T.x_PackError T.s_Short_Short T.s_Short_PackError, kit_ve T.x_Short.v, T.x_Short.c⟩
inductive Er where
  | count | bit | loose | short | sign
def erA (A : Adr) : Er → Addr
  | .count => A.C_BadCount | .bit => A.C_BadBit | .loose => A.C_Loose | .short => A.C_Short | .sign => A.C_BadSign
def erT : Er → Str
  | .count => "countTrue" | .bit => "bitTrue" | .loose => "looseTrue" | .short => "shortTrue" | .sign => "signTrue"
def TTtold (A : Adr) (tl : XK → Hp → VK → Prop) (H : Hp) (Q : VK) : Prop := tl (fun cls d H' => d = none ∧ ∃ e : Er, cls = .ref (erA A e) ∧ Q (.str (erT e)) H') H (fun _ H' => Q (.str "") H')
theorem gives_law_told {X : Cx} {A : Adr} {k : Nat} (T : Txt X.K X.mg A) (hk : 1 ≤ k) (cdv : Value) : Gives X k ["_law_call", "_law_found", "_law_e"] "_law_told" (defScope s_law_told) A.f_law_told cdv (defBody s_law_told) "_law_call" (TTtold A) := by
  intro f s H Q P0 tl hr act h0 h
  have G_law_kinds := ok_law_kinds (P := X.prog) (w := X.w) (base := X.base) T
  have hr_law_kinds := hr.mono hk
  refine ⟨_, (pss_cons (ps_set (i := 1) sc_law_told.nd rfl (Or.inl rfl) pe_str)
      (pss_cons (ps_try_asMany rfl rfl sc_law_told.nd takes0 (fun W pn xe tk _ => (pss_one (ps_expr (act W pn xe _ _ tk))))
      (HdsAs.cons (i := 2) ⟨rfl, by decide, .inl T.g_BadCount⟩ rfl rfl (fun a oe cls d pn hz hfl hbs => (pss_one (ps_set (i := 1) sc_law_told.nd rfl (Or.inl rfl) (pe_op op_add_str pe_str (pe_callTy call_str_bl (by rfl) T.n_str (by decide +kernel) (pa_cons (pe_callE G_law_kinds ⟨hr_law_kinds.dp, hr_law_kinds.un⟩ hz hfl hbs rfl T.g_law_kinds T.F_law_kinds.kp T.b_law_kinds (pa_cons (pv 2) pa_nil)) pa_nil))))))
      (HdsAs.cons (i := 2) ⟨rfl, by decide, .inl T.g_BadBit⟩ rfl rfl (fun a oe cls d pn hz hfl hbs => (pss_one (ps_set (i := 1) sc_law_told.nd rfl (Or.inl rfl) (pe_op op_add_str pe_str (pe_callTy call_str_bl (by rfl) T.n_str (by decide +kernel) (pa_cons (pe_callE G_law_kinds ⟨hr_law_kinds.dp, hr_law_kinds.un⟩ hz hfl hbs rfl T.g_law_kinds T.F_law_kinds.kp T.b_law_kinds (pa_cons (pv 2) pa_nil)) pa_nil))))))
      (HdsAs.cons (i := 2) ⟨rfl, by decide, .inl T.g_Loose⟩ rfl rfl (fun a oe cls d pn hz hfl hbs => (pss_one (ps_set (i := 1) sc_law_told.nd rfl (Or.inl rfl) (pe_op op_add_str pe_str (pe_callTy call_str_bl (by rfl) T.n_str (by decide +kernel) (pa_cons (pe_callE G_law_kinds ⟨hr_law_kinds.dp, hr_law_kinds.un⟩ hz hfl hbs rfl T.g_law_kinds T.F_law_kinds.kp T.b_law_kinds (pa_cons (pv 2) pa_nil)) pa_nil))))))
      (HdsAs.cons (i := 2) ⟨rfl, by decide, .inl T.g_Short⟩ rfl rfl (fun a oe cls d pn hz hfl hbs => (pss_one (ps_set (i := 1) sc_law_told.nd rfl (Or.inl rfl) (pe_op op_add_str pe_str (pe_callTy call_str_bl (by rfl) T.n_str (by decide +kernel) (pa_cons (pe_callE G_law_kinds ⟨hr_law_kinds.dp, hr_law_kinds.un⟩ hz hfl hbs rfl T.g_law_kinds T.F_law_kinds.kp T.b_law_kinds (pa_cons (pv 2) pa_nil)) pa_nil))))))
      (HdsAs.cons (i := 2) ⟨rfl, by decide, .inl T.g_BadSign⟩ rfl rfl (fun a oe cls d pn hz hfl hbs => (pss_one (ps_set (i := 1) sc_law_told.nd rfl (Or.inl rfl) (pe_op op_add_str pe_str (pe_callTy call_str_bl (by rfl) T.n_str (by decide +kernel) (pa_cons (pe_callE G_law_kinds ⟨hr_law_kinds.dp, hr_law_kinds.un⟩ hz hfl hbs rfl T.g_law_kinds T.F_law_kinds.kp T.b_law_kinds (pa_cons (pv 2) pa_nil)) pa_nil))))))
      HdsAs.nil))))))
      (pss_one (ps_ret (pv 1))))), ?_⟩
  refine w_start (σ' := [some (.ref f), none, none]) rfl ?_
  walk_at "ss"
  refine w_act (E := fun cls d H' => d = none ∧ ∃ e : Er, cls = .ref (erA A e) ∧ Q (.str (erT e)) H') (fun cls d H' hE => ?_) rfl h0 ?_
  · obtain ⟨rfl, e, rfl, hq⟩ := hE
    cases e with
    | count =>
      show wAsMany _ _ _ _ (.ref A.C_BadCount) none _ H'
      refine w_exmT (exm_own T.x_BadCount T.s_BadCount_BadCount) (fun a ha => ?_)
      walk_at "ss"
      intro oe hz hf
      refine u_kinds upd_same hz hf (kd_BadCount T) ⟨rfl, ?_⟩
      walk_at "ss"
      refine w_addS (by decide) ?_
      dsimp only [D_as]
      walk_at "ss"
      exact hq
    | bit =>
      show wAsMany _ _ _ _ (.ref A.C_BadBit) none _ H'
      refine w_exmF (exm_own T.x_BadCount T.s_BadBit_BadCount) ?_
      refine w_exmT (exm_own T.x_BadBit T.s_BadBit_BadBit) (fun a ha => ?_)
      walk_at "ss"
      intro oe hz hf
      refine u_kinds upd_same hz hf (kd_BadBit T) ⟨rfl, ?_⟩
      walk_at "ss"
      refine w_addS (by decide) ?_
      dsimp only [D_as]
      walk_at "ss"
      exact hq
    | loose =>
      show wAsMany _ _ _ _ (.ref A.C_Loose) none _ H'
      refine w_exmF (exm_own T.x_BadCount T.s_Loose_BadCount) ?_
      refine w_exmF (exm_own T.x_BadBit T.s_Loose_BadBit) ?_
      refine w_exmT (exm_own T.x_Loose T.s_Loose_Loose) (fun a ha => ?_)
      walk_at "ss"
      intro oe hz hf
      refine u_kinds upd_same hz hf (kd_Loose T) ⟨rfl, ?_⟩
      walk_at "ss"
      refine w_addS (by decide) ?_
      dsimp only [D_as]
      walk_at "ss"
      exact hq
    | short =>
      show wAsMany _ _ _ _ (.ref A.C_Short) none _ H'
      refine w_exmF (exm_own T.x_BadCount T.s_Short_BadCount) ?_
      refine w_exmF (exm_own T.x_BadBit T.s_Short_BadBit) ?_
      refine w_exmF (exm_own T.x_Loose T.s_Short_Loose) ?_
      refine w_exmT (exm_own T.x_Short T.s_Short_Short) (fun a ha => ?_)
      walk_at "ss"
      intro oe hz hf
      refine u_kinds upd_same hz hf (kd_Short T) ⟨rfl, ?_⟩
      walk_at "ss"
      refine w_addS (by decide) ?_
      dsimp only [D_as]
      walk_at "ss"
      exact hq
    | sign =>
      show wAsMany _ _ _ _ (.ref A.C_BadSign) none _ H'
      refine w_exmF (exm_own T.x_BadCount T.s_BadSign_BadCount) ?_
      refine w_exmF (exm_own T.x_BadBit T.s_BadSign_BadBit) ?_
      refine w_exmF (exm_own T.x_Loose T.s_BadSign_Loose) ?_
      refine w_exmF (exm_own T.x_Short T.s_BadSign_Short) ?_
      refine w_exmT (exm_own T.x_BadSign T.s_BadSign_BadSign) (fun a ha => ?_)
      walk_at "ss"
      intro oe hz hf
      refine u_kinds upd_same hz hf (kd_BadSign T) ⟨rfl, ?_⟩
      walk_at "ss"
      refine w_addS (by decide) ?_
      dsimp only [D_as]
      walk_at "ss"
      exact hq
  · refine cast (congrArg (tl _ H) (funext fun x => funext fun H1 => propext ⟨fun hq => ⟨_, rfl, hq⟩, fun hq => ?_⟩)) h
    obtain ⟨v, hv, hq⟩ := hq
    cases hv
    exact hq
end
theorem sc_law_count_drawn : FnScope ["_law_cell", "_law_many"] ["_law_cell", "_law_many"] (defScope s_law_count_drawn) := ⟨rfl, rfl, rfl, by decide +kernel, rfl, by decide +kernel, by decide +kernel⟩
section
variable {P : Program} {w : World} {K : PySem.W.Frag} {mg : Str → Option Value} {base : Heap} {A : Adr}
def CntOk (n : Nat) (v : V) : Prop := (match v with | .int _ => True | .bl _ => True | .non => True | .str _ => True | _ => False) ∧ (wholeV v 0 2000 = true → v = .int (n : Int) ∨ v = .int ((n + 1 : Nat) : Int) ∨ (1 ≤ n ∧ v = .int ((n - 1 : Nat) : Int)))
def sp_law_count_drawn : L2.Sp := fun vs H Q _ => ∃ (c : Int) (n : Nat), vs = [.int c, .int (n : Int)] ∧ ∀ H' v, Same H H' → CntOk n v → Q v H'
theorem u_count_drawn {H : Hp} {Q : VK} {E : XK} {c : Int} {n : Nat} (q : ∀ H' v, Same H H' → CntOk n v → Q v H') : sp_law_count_drawn [.int c, .int (n : Int)] H Q E := ⟨c, n, rfl, q⟩
theorem int_due {i : Int} (h : wholeV (.int i) 0 2000 = true) : 0 ≤ i ∧ i ≤ 2000 := by
  have h' : (decide (0 ≤ i) && decide (i ≤ 2000)) = true := h
  rw [Bool.and_eq_true, decide_eq_true_eq, decide_eq_true_eq] at h'
  exact h'
theorem ok_law_count_drawn (T : Txt K mg A) : FnOk P w K mg base CX0 1 A.f_law_count_drawn A.d_law_count_drawn ["_law_cell", "_law_many"] (sp_law_count_drawn) := by
  refine T.F_law_count_drawn.ok sc_law_count_drawn (fun vs H Q E h => by first | (obtain ⟨rfl, _⟩ := h; rfl) | (obtain ⟨_, rfl, _⟩ := h; rfl) | (obtain ⟨_, _, rfl, _⟩ := h; rfl) | (obtain ⟨_, _, _, rfl, _⟩ := h; rfl) | (obtain ⟨_, _, _, _, rfl, _⟩ := h; rfl) | (obtain ⟨_, _, _, _, _, rfl, _⟩ := h; rfl) | (obtain ⟨_, _, _, _, _, _, rfl, _⟩ := h; rfl) | (obtain ⟨_, _, _, _, _, _, _, rfl, _⟩ := h; rfl) | (obtain ⟨_, _, _, _, _, _, _, _, rfl, _⟩ := h; rfl) | (obtain ⟨_, _, _, _, _, _, _, _, _, rfl, _⟩ := h; rfl) | (obtain ⟨_, _, _, _, _, _, _, _, _, _, rfl, _⟩ := h; rfl) | (obtain ⟨_, _, _, _, _, _, _, _, _, _, _, rfl, _⟩ := h; rfl) | (obtain ⟨_, _, _, _, _, _, _, _, _, _, _, _, rfl, _⟩ := h; rfl) | (obtain ⟨_, _, _, _, _, _, _, _, _, _, _, _, _, rfl, _⟩ := h; rfl) | (obtain ⟨_, _, _, _, _, _, _, _, _, _, _, _, _, _, rfl, _⟩ := h; rfl) | (obtain ⟨_, _, _, _, _, _, _, _, _, _, _, _, _, _, _, rfl, _⟩ := h; rfl) | (obtain ⟨_, _, _, _, _, _, _, _, _, _, _, _, _, _, _, _, rfl, _⟩ := h; rfl) | (obtain ⟨_, _, _, _, _, _, _, _, _, _, _, _, _, _, _, _, _, rfl, _⟩ := h; rfl) | (obtain ⟨_, _, _, _, _, _, _, _, _, _, _, _, _, _, _, _, _, _, rfl, _⟩ := h; rfl) | (obtain ⟨_, _, _, _, _, _, _, _, _, _, _, _, _, _, _, _, _, _, _, rfl, _⟩ := h; rfl) | (obtain ⟨_, _, _, _, _, _, _, _, _, _, _, _, _, _, _, _, _, _, _, _, rfl, _⟩ := h; rfl) | (obtain ⟨_, _, _, _, _, _, _, _, _, _, _, _, _, _, _, _, _, _, _, _, _, rfl, _⟩ := h; rfl)) (fun cdv Ar outer s H vs Q E hr h => ?_)
  obtain ⟨c, n, rfl, q⟩ := h
  refine ⟨_, (pss_one (ps_ret (pe_ix (ix_listK (K := K)) (pe_lst (pa_cons (pv 1) (pa_cons (pe_op op_add (pv 1) pe_int) (pa_cons (pe_op op_sub (pv 1) pe_int) (pa_cons pe_int (pa_cons (pe_un un_neg pe_int) (pa_cons pe_bl (pa_cons pe_non (pa_cons pe_str (pa_cons pe_bl pa_nil)))))))))) (pe_op op_mod (pv 0) pe_int) (fun _ _ => rfl)))), ?_⟩
  refine w_start (σ' := [some _, some _]) rfl ?_
  try dsimp only [cxOf, Cx.nox, Cx.wish]
  walk_at "ss"
  refine w_new (fun p H1 s1 hp hl => ?_)
  have e0 := Int.emod_nonneg c (show (9 : Int) ≠ 0 by decide)
  have e1 := Int.emod_lt_of_pos c (show (0 : Int) < 9 by decide)
  obtain ⟨k, hk⟩ := Int.eq_ofNat_of_zero_le e0
  walk_at "ss"
  rw [hk]
  have pick : ∃ v, ([V.int (n : Int), V.int ((n : Int) + 1), V.int ((n : Int) - 1), V.int 2001, V.int (-1), V.bl true, V.non, V.str (Str.ofString "2"), V.bl false] : List V)[k]? = some v ∧ CntOk n v := by
    have hk9 : k < 9 := by omega
    match k, hk9 with
    | 0, _ => exact ⟨_, rfl, trivial, fun _ => .inl rfl⟩
    | 1, _ => exact ⟨_, rfl, trivial, fun _ => .inr (.inl (congrArg V.int (by omega)))⟩
    | 2, _ => exact ⟨_, rfl, trivial, fun h => by
        have := (int_due h).1
        exact .inr (.inr ⟨by omega, congrArg V.int (by omega)⟩)⟩
    | 3, _ => exact ⟨_, rfl, trivial, fun h => absurd (int_due h).2 (by decide)⟩
    | 4, _ => exact ⟨_, rfl, trivial, fun h => absurd (int_due h).1 (by decide)⟩
    | 5, _ => exact ⟨_, rfl, trivial, fun h => absurd h Bool.false_ne_true⟩
    | 6, _ => exact ⟨_, rfl, trivial, fun h => absurd h Bool.false_ne_true⟩
    | 7, _ => exact ⟨_, rfl, trivial, fun h => absurd h Bool.false_ne_true⟩
    | 8, _ => exact ⟨_, rfl, trivial, fun h => absurd h Bool.false_ne_true⟩
  obtain ⟨v, hv, ok⟩ := pick
  refine w_ixL (SqL.of hl) (atI_nat hv) ?_
  exact q H1 v s1 ok
end
theorem sc_law_count_due : FnScope ["_law_thing"] ["_law_thing"] (defScope s_law_count_due) := ⟨rfl, rfl, rfl, by decide +kernel, rfl, by decide +kernel, by decide +kernel⟩
section
variable {P : Program} {w : World} {K : PySem.W.Frag} {mg : Str → Option Value} {base : Heap} {A : Adr}
def sp_law_count_due : L2.Sp := fun vs H Q _ => ∃ x : V, vs = [x] ∧ Kd H x ∧ Q (.bl (wholeV x 0 2000)) H
theorem u_count_due {H : Hp} {Q : VK} {E : XK} {x : V} (h : Kd H x) (q : Q (.bl (wholeV x 0 2000)) H) : sp_law_count_due [x] H Q E := ⟨x, rfl, h, q⟩
theorem ok_law_count_due (T : Txt K mg A) : FnOk P w K mg base CX0 1 A.f_law_count_due A.d_law_count_due ["_law_thing"] (sp_law_count_due) := by
  refine T.F_law_count_due.ok sc_law_count_due (fun vs H Q E h => by first | (obtain ⟨rfl, _⟩ := h; rfl) | (obtain ⟨_, rfl, _⟩ := h; rfl) | (obtain ⟨_, _, rfl, _⟩ := h; rfl) | (obtain ⟨_, _, _, rfl, _⟩ := h; rfl) | (obtain ⟨_, _, _, _, rfl, _⟩ := h; rfl) | (obtain ⟨_, _, _, _, _, rfl, _⟩ := h; rfl) | (obtain ⟨_, _, _, _, _, _, rfl, _⟩ := h; rfl) | (obtain ⟨_, _, _, _, _, _, _, rfl, _⟩ := h; rfl) | (obtain ⟨_, _, _, _, _, _, _, _, rfl, _⟩ := h; rfl) | (obtain ⟨_, _, _, _, _, _, _, _, _, rfl, _⟩ := h; rfl) | (obtain ⟨_, _, _, _, _, _, _, _, _, _, rfl, _⟩ := h; rfl) | (obtain ⟨_, _, _, _, _, _, _, _, _, _, _, rfl, _⟩ := h; rfl) | (obtain ⟨_, _, _, _, _, _, _, _, _, _, _, _, rfl, _⟩ := h; rfl) | (obtain ⟨_, _, _, _, _, _, _, _, _, _, _, _, _, rfl, _⟩ := h; rfl) | (obtain ⟨_, _, _, _, _, _, _, _, _, _, _, _, _, _, rfl, _⟩ := h; rfl) | (obtain ⟨_, _, _, _, _, _, _, _, _, _, _, _, _, _, _, rfl, _⟩ := h; rfl) | (obtain ⟨_, _, _, _, _, _, _, _, _, _, _, _, _, _, _, _, rfl, _⟩ := h; rfl) | (obtain ⟨_, _, _, _, _, _, _, _, _, _, _, _, _, _, _, _, _, rfl, _⟩ := h; rfl) | (obtain ⟨_, _, _, _, _, _, _, _, _, _, _, _, _, _, _, _, _, _, rfl, _⟩ := h; rfl) | (obtain ⟨_, _, _, _, _, _, _, _, _, _, _, _, _, _, _, _, _, _, _, rfl, _⟩ := h; rfl) | (obtain ⟨_, _, _, _, _, _, _, _, _, _, _, _, _, _, _, _, _, _, _, _, rfl, _⟩ := h; rfl) | (obtain ⟨_, _, _, _, _, _, _, _, _, _, _, _, _, _, _, _, _, _, _, _, _, rfl, _⟩ := h; rfl)) (fun cdv Ar outer s H vs Q E hr h => ?_)
  obtain ⟨x, rfl, hx, q⟩ := h
  refine ⟨_, (pss_cons (ps_if (PW.pt (pw_or (pt_val (pe_callB (call_isiK0 (K := K)) (by rfl) T.n_isinstance (by decide +kernel) (pa_cons (pv 0) (pa_cons (pe_bltn (v := .ty "bool") (by rfl) T.n_bool (by decide +kernel) rfl) pa_nil)))) (pw_or1 (pt_not (pt_val (pe_callB (call_isiK0 (K := K)) (by rfl) T.n_isinstance (by decide +kernel) (pa_cons (pv 0) (pa_cons (pe_bltn (v := .ty "int") (by rfl) T.n_int (by decide +kernel) rfl) pa_nil)))))))) (pss_one (ps_ret pe_bl))
      pss_nil)
      (pss_one (ps_ret (pe_chain op_le op_le pe_int (pv 0) pe_int)))), ?_⟩
  refine w_start (σ' := [some _]) rfl ?_
  try dsimp only [cxOf, Cx.nox, Cx.wish]
  cases x with
  | int i =>
    walk_at "ss"
    simp only [wholeV] at q
    refine w_ite (p := (0 : Int) ≤ i) (fun h => ?_) (fun h => ?_)
    · walk_at "ss"
      rw [decide_eq_true h] at q
      exact q
    · rw [decide_eq_false h] at q
      exact q
  | bl b =>
    walk_at "ss"
    exact q
  | non =>
    walk_at "ss"
    exact q
  | str z =>
    walk_at "ss"
    exact q
  | ref a =>
    rcases hx with ⟨xs, hx⟩ | ⟨xs, hx⟩
    · walk_at "ss"
      exact q
    · walk_at "ss"
      exact q
  | _ => exact hx.elim
end
theorem sc_law_put_in : FnScope ["_law_row", "_law_at", "_law_sign", "_law_k"] ["_law_row", "_law_at", "_law_sign"] (defScope s_law_put_in) := ⟨rfl, rfl, rfl, by decide +kernel, rfl, by decide +kernel, by decide +kernel⟩
section
variable {P : Program} {w : World} {K : PySem.W.Frag} {mg : Str → Option Value} {base : Heap} {A : Adr}
def sp_law_put_in : L2.Sp := fun vs H Q _ => ∃ (l s : List Nat) (i : Int), vs = [.str (S l), .int i, .str (S s)] ∧ l.length ≤ 50000 ∧ s.length ≤ 100 ∧ ∀ j, j ≤ l.length → Q (.str (S (l.take j ++ s ++ l.drop j))) H
theorem u_put_in {H : Hp} {Q : VK} {E : XK} {l s : List Nat} {i : Int} (ll : l.length ≤ 50000) (ls : s.length ≤ 100) (q : ∀ j, j ≤ l.length → Q (.str (S (l.take j ++ s ++ l.drop j))) H) : sp_law_put_in [.str (S l), .int i, .str (S s)] H Q E := ⟨l, s, i, rfl, ll, ls, q⟩
theorem ok_law_put_in (T : Txt K mg A) : FnOk P w K mg base CX0 1 A.f_law_put_in A.d_law_put_in ["_law_row", "_law_at", "_law_sign"] (sp_law_put_in) := by
  refine T.F_law_put_in.ok sc_law_put_in (fun vs H Q E h => by first | (obtain ⟨rfl, _⟩ := h; rfl) | (obtain ⟨_, rfl, _⟩ := h; rfl) | (obtain ⟨_, _, rfl, _⟩ := h; rfl) | (obtain ⟨_, _, _, rfl, _⟩ := h; rfl) | (obtain ⟨_, _, _, _, rfl, _⟩ := h; rfl) | (obtain ⟨_, _, _, _, _, rfl, _⟩ := h; rfl) | (obtain ⟨_, _, _, _, _, _, rfl, _⟩ := h; rfl) | (obtain ⟨_, _, _, _, _, _, _, rfl, _⟩ := h; rfl) | (obtain ⟨_, _, _, _, _, _, _, _, rfl, _⟩ := h; rfl) | (obtain ⟨_, _, _, _, _, _, _, _, _, rfl, _⟩ := h; rfl) | (obtain ⟨_, _, _, _, _, _, _, _, _, _, rfl, _⟩ := h; rfl) | (obtain ⟨_, _, _, _, _, _, _, _, _, _, _, rfl, _⟩ := h; rfl) | (obtain ⟨_, _, _, _, _, _, _, _, _, _, _, _, rfl, _⟩ := h; rfl) | (obtain ⟨_, _, _, _, _, _, _, _, _, _, _, _, _, rfl, _⟩ := h; rfl) | (obtain ⟨_, _, _, _, _, _, _, _, _, _, _, _, _, _, rfl, _⟩ := h; rfl) | (obtain ⟨_, _, _, _, _, _, _, _, _, _, _, _, _, _, _, rfl, _⟩ := h; rfl) | (obtain ⟨_, _, _, _, _, _, _, _, _, _, _, _, _, _, _, _, rfl, _⟩ := h; rfl) | (obtain ⟨_, _, _, _, _, _, _, _, _, _, _, _, _, _, _, _, _, rfl, _⟩ := h; rfl) | (obtain ⟨_, _, _, _, _, _, _, _, _, _, _, _, _, _, _, _, _, _, rfl, _⟩ := h; rfl) | (obtain ⟨_, _, _, _, _, _, _, _, _, _, _, _, _, _, _, _, _, _, _, rfl, _⟩ := h; rfl) | (obtain ⟨_, _, _, _, _, _, _, _, _, _, _, _, _, _, _, _, _, _, _, _, rfl, _⟩ := h; rfl) | (obtain ⟨_, _, _, _, _, _, _, _, _, _, _, _, _, _, _, _, _, _, _, _, _, rfl, _⟩ := h; rfl)) (fun cdv Ar outer s H vs Q E hr h => ?_)
  obtain ⟨l, s', i, rfl, ll, ls, q⟩ := h
  refine ⟨_, (pss_cons (ps_set (i := 3) sc_law_put_in.nd rfl (Or.inl rfl) (pe_op op_mod (pv 1) (pe_op op_add (pe_callB call_len_str (by rfl) T.n_len PySem.boot_len (pa_cons (pv 0) pa_nil)) pe_int)))
      (pss_one (ps_ret (pe_op op_add_str (pe_op op_add_str (pe_slice sl_str (pv 0) po_none (po_some (pv 3))) (pv 2)) (pe_slice sl_str (pv 0) (po_some (pv 3)) po_none))))), ?_⟩
  refine w_start (σ' := [some _, some _, some _, none]) rfl ?_
  try dsimp only [cxOf, Cx.nox, Cx.wish]
  have zl := Nat.le_trans ll (show 50000 ≤ sizeLine by decide)
  walk_at "ss"
  refine w_lenX zl ?_
  rw [S_len]
  walk_at "ss"
  have e0 := Int.emod_nonneg i (show ((l.length : Int) + 1) ≠ 0 by omega)
  have e1 := Int.emod_lt_of_pos i (show (0 : Int) < (l.length : Int) + 1 by omega)
  obtain ⟨j, hj⟩ := Int.eq_ofNat_of_zero_le e0
  rw [hj]
  have lt := List.length_take (i := j) (l := l)
  have ld := List.length_drop (i := j) (l := l)
  refine w_slS (by rw [S_len]; exact zl) ?_
  rw [cutS_to]
  walk_at "ss"
  refine w_addX (Nat.le_trans (show (l.take j).length + s'.length ≤ 60000 by omega) (by decide)) ?_
  rw [S_cat]
  walk_at "ss"
  refine w_slS (by rw [S_len]; exact zl) ?_
  rw [cutS_from]
  refine w_addX (by rw [List.length_append]; exact Nat.le_trans (show (l.take j).length + s'.length + (l.drop j).length ≤ 120000 by omega) (by decide)) ?_
  rw [S_cat]
  walk_at "ss"
  exact q j (by omega)
end
theorem sc_law_stands : FnScope ["_law_found"] ["_law_found"] (defScope s_law_stands) := ⟨rfl, rfl, rfl, by decide +kernel, rfl, by decide +kernel, by decide +kernel⟩
section
variable {P : Program} {w : World} {K : PySem.W.Frag} {mg : Str → Option Value} {base : Heap} {A : Adr}
/-- the shares, the words, the signs that wait, in lists of their own -/
def StandAt (H : Hp) (x : V) (ns : List Int) (wt : List Nat) : Prop := ∃ t l1 l2, x = .ref t ∧ H t = some (.tup [.ref l1, .ref l2, .str (S wt)]) ∧ H l1 = some (.lst (ns.map V.int)) ∧ H l2 = some (.lst (wordsV (codesL ns)))
theorem StandAt.ext {H H' : Hp} {x : V} {ns : List Int} {wt : List Nat} (h : StandAt H x ns wt) (e : LamX.ExtN H H') : StandAt H' x ns wt := by
  obtain ⟨t, l1, l2, rfl, h1, h2, h3⟩ := h
  exact ⟨t, l1, l2, rfl, e _ _ h1 (fun ps y => by cases y), e _ _ h2 (fun ps y => by cases y), e _ _ h3 (fun ps y => by cases y)⟩
theorem StandAt.but {q C dx : Addr} {fs : List (Str × V)} {H H' : Hp} {x : V} {ns : List Int} {wt : List Nat} (h : StandAt H x ns wt) (s : SameP q H H') (hq : H q = some (.ins C dx fs)) : StandAt H' x ns wt := by
  obtain ⟨t, l1, l2, rfl, h1, h2, h3⟩ := h
  exact ⟨t, l1, l2, rfl, s.at' h1 hq (by intro z; cases z), s.at' h2 hq (by intro z; cases z), s.at' h3 hq (by intro z; cases z)⟩
def standD (ns : List Int) (wt : List Nat) : PyData := .tuple [.list (ns.map .int), wordsD (codesL ns), .str (S wt)]
theorem stand_dp {K : PySem.W.Frag} {H : Hp} {x : V} {ns : List Int} {wt : List Nat} (h : StandAt H x ns wt) : Dp K H x (standD ns wt) := by
  obtain ⟨t, l1, l2, rfl, h1, h2, h3⟩ := h
  exact .tup (SqT.of h1) (.cons (.lst (SqL.of h2) (dp_ints _)) (.cons (dp_words h3) (.cons (.str _) .nil)))
theorem stand_shaped {ns : List Int} {wt : List Nat} (g : Good ns) (hw : ∀ c ∈ wt, c < 1114112) : SeqAt.shaped (standD ns wt) = true := by
  obtain ⟨h1, h2⟩ := words_lay (codes_small g)
  obtain ⟨k1, k2⟩ := ints_lay ns
  show ((PyData.canLayAll0 (ns.map PyData.int) && (PyData.canLayAll0 ((codesL ns).map fun w => .str (S w)) && (PyData.strOk (S wt) && true))) && decide (max (PyData.depthAll (ns.map PyData.int) + 1) (max (PyData.depthAll ((codesL ns).map fun w => .str (S w)) + 1) (max 0 0)) + 1 ≤ 64)) = true
  rw [h1, h2, k1, k2, strOk_S hw]
  rfl
def sp_law_stands (CL CP CU : Addr) : L2.Sp := fun vs H Q _ => ∃ (k p b : Addr) (ns : List Int) (wt : List Nat), vs = [.ref k] ∧ ((∃ C dx fs, C = CP ∧ H k = some (.ins C dx fs) ∧ fs.lookup ("learner" : Str) = some (V.ref p)) ∨ (∃ C dx fs, C = CU ∧ H k = some (.ins C dx fs) ∧ fs.lookup ("learner" : Str) = some (V.ref p))) ∧ LearnAt CL H p b ns wt ∧ ∀ H' x, Same H H' → StandAt H' x ns wt → Q x H'
theorem u_standsP {CL CP CU : Addr} {H : Hp} {Q : VK} {E : XK} {k p b : Addr} {ns : List Int} {wt : List Nat} (hk : PackAt CP H k p b) (hl : LearnAt CL H p b ns wt) (q : ∀ H' x, Same H H' → StandAt H' x ns wt → Q x H') : sp_law_stands CL CP CU [.ref k] H Q E :=
  let ⟨dx, e⟩ := hk; ⟨k, p, b, ns, wt, rfl, .inl ⟨CP, dx, _, rfl, e, lk_ne (by decide +kernel) lk_eq⟩, hl, q⟩
theorem u_standsU {CL CP CU : Addr} {H : Hp} {Q : VK} {E : XK} {k p b : Addr} {L : Nat} {rest : Word} {ns : List Int} {wt : List Nat} (hk : UnpAt CU H k p b L rest) (hl : LearnAt CL H p b ns wt) (q : ∀ H' x, Same H H' → StandAt H' x ns wt → Q x H') : sp_law_stands CL CP CU [.ref k] H Q E :=
  let ⟨dx, e⟩ := hk; ⟨k, p, b, ns, wt, rfl, .inr ⟨CU, dx, _, rfl, e, lk_ne (by decide +kernel) lk_eq⟩, hl, q⟩
theorem ok_law_stands (T : Txt K mg A) : FnOk P w K mg base CX0 1 A.f_law_stands A.d_law_stands ["_law_found"] (sp_law_stands A.C_Learner A.C_Packer A.C_Unpacker) := by
  refine T.F_law_stands.ok sc_law_stands (fun vs H Q E h => by first | (obtain ⟨rfl, _⟩ := h; rfl) | (obtain ⟨_, rfl, _⟩ := h; rfl) | (obtain ⟨_, _, rfl, _⟩ := h; rfl) | (obtain ⟨_, _, _, rfl, _⟩ := h; rfl) | (obtain ⟨_, _, _, _, rfl, _⟩ := h; rfl) | (obtain ⟨_, _, _, _, _, rfl, _⟩ := h; rfl) | (obtain ⟨_, _, _, _, _, _, rfl, _⟩ := h; rfl) | (obtain ⟨_, _, _, _, _, _, _, rfl, _⟩ := h; rfl) | (obtain ⟨_, _, _, _, _, _, _, _, rfl, _⟩ := h; rfl) | (obtain ⟨_, _, _, _, _, _, _, _, _, rfl, _⟩ := h; rfl) | (obtain ⟨_, _, _, _, _, _, _, _, _, _, rfl, _⟩ := h; rfl) | (obtain ⟨_, _, _, _, _, _, _, _, _, _, _, rfl, _⟩ := h; rfl) | (obtain ⟨_, _, _, _, _, _, _, _, _, _, _, _, rfl, _⟩ := h; rfl) | (obtain ⟨_, _, _, _, _, _, _, _, _, _, _, _, _, rfl, _⟩ := h; rfl) | (obtain ⟨_, _, _, _, _, _, _, _, _, _, _, _, _, _, rfl, _⟩ := h; rfl) | (obtain ⟨_, _, _, _, _, _, _, _, _, _, _, _, _, _, _, rfl, _⟩ := h; rfl) | (obtain ⟨_, _, _, _, _, _, _, _, _, _, _, _, _, _, _, _, rfl, _⟩ := h; rfl) | (obtain ⟨_, _, _, _, _, _, _, _, _, _, _, _, _, _, _, _, _, rfl, _⟩ := h; rfl) | (obtain ⟨_, _, _, _, _, _, _, _, _, _, _, _, _, _, _, _, _, _, rfl, _⟩ := h; rfl) | (obtain ⟨_, _, _, _, _, _, _, _, _, _, _, _, _, _, _, _, _, _, _, rfl, _⟩ := h; rfl) | (obtain ⟨_, _, _, _, _, _, _, _, _, _, _, _, _, _, _, _, _, _, _, _, rfl, _⟩ := h; rfl) | (obtain ⟨_, _, _, _, _, _, _, _, _, _, _, _, _, _, _, _, _, _, _, _, _, rfl, _⟩ := h; rfl)) (fun cdv Ar outer s H vs Q E hr h => ?_)
  obtain ⟨k, p, b, ns, wt, rfl, hk, ⟨dx, sa, wa, hp, hs, hw⟩, q⟩ := h
  have na_Learner_shares := T.na_Learner_shares
  have na_Learner_waits := T.na_Learner_waits
  have na_Learner_words := T.na_Learner_words
  have na_Packer_learner := T.na_Packer_learner
  have na_Unpacker_learner := T.na_Unpacker_learner
  have cl_Learner := T.cl_Learner
  have cl_Packer := T.cl_Packer
  have cl_Unpacker := T.cl_Unpacker
  refine ⟨_, (pss_one (ps_ret (pe_tup (pa_cons (pe_callTy (call_listK (K := K)) (by rfl) T.n_list (by decide +kernel) (pa_cons (pe_fldK (K := K) (pe_fldK (K := K) (pv 0))) pa_nil)) (pa_cons (pe_callTy (call_listK (K := K)) (by rfl) T.n_list (by decide +kernel) (pa_cons (pe_fldK (K := K) (pe_fldK (K := K) (pv 0))) pa_nil)) (pa_cons (pe_fldK (K := K) (pe_fldK (K := K) (pv 0))) pa_nil)))))), ?_⟩
  refine w_start (σ' := [some _]) rfl ?_
  try dsimp only [cxOf, Cx.nox, Cx.wish]
  have fld : ∀ {Hx : Hp} (_ : Same H Hx) {R : Addr → Addr → Addr → List (Str × V) → V → Prop}, (∀ a C dx fs, R a C dx fs (.ref p)) → ∃ a' C dx fs v, V.ref k = .ref a' ∧ Hx a' = some (.ins C dx fs) ∧ Cls K C ∧ NoAttr K C "learner" ∧ fs.lookup ("learner" : Str) = some v ∧ R a' C dx fs v := fun {Hx} s {R} q => by
    rcases hk with ⟨C, dk, fs, rfl, e, l⟩ | ⟨C, dk, fs, rfl, e, l⟩
    · exact ⟨k, A.C_Packer, dk, fs, _, rfl, s _ _ e, T.cl_Packer, T.na_Packer_learner, l, q _ _ _ _⟩
    · exact ⟨k, A.C_Unpacker, dk, fs, _, rfl, s _ _ e, T.cl_Unpacker, T.na_Unpacker_learner, l, q _ _ _ _⟩
  walk_at "ss"
  refine fld (Same.refl H) (fun a1 C1 d1 f1 => ?_)
  walk_at "ss"
  refine w_new (fun l1 H1 s1 hl1 h1 => ?_)
  have hp1 := s1 _ _ hp
  have hw1 := s1 _ _ hw
  walk_at "ss"
  refine fld s1 (fun a1 C1 d1 f1 => ?_)
  walk_at "ss"
  refine w_new (fun l2 H2 s2 hl2 h2 => ?_)
  have hp2 := s2 _ _ hp1
  walk_at "ss"
  refine fld (s1.trans s2) (fun a1 C1 d1 f1 => ?_)
  walk_at "ss"
  refine w_new (fun t H3 s3 ht h3 => ?_)
  exact q H3 _ (s1.trans (s2.trans s3)) ⟨t, l1, l2, rfl, h3, s3 _ _ (s2 _ _ h1), s3 _ _ h2⟩
end
theorem sc_law_goes_on : FnScope ["_law_book", "_law_text", "_law_bits", "_law_odd", "_law_at", "_law_packer", "_law_half", "_law_first", "_law_ahead", "_law_reader", "_law_cut", "_law_start", "_law_wrong"] ["_law_book", "_law_text", "_law_bits", "_law_odd", "_law_at"] (defScope s_law_goes_on) := ⟨rfl, rfl, rfl, by decide +kernel, rfl, by decide +kernel, by decide +kernel⟩
section
variable {P : Program} {w : World} {K : PySem.W.Frag} {mg : Str → Option Value} {base : Heap} {A : Adr}
theorem wrong_signs : ([V.str (Str.ofString "2"), V.str (Str.ofString "\n"), V.str (Str.ofString "\t"), V.str (Str.ofString " ")] : List V) = ([50, 10, 9, 32] : List Nat).map fun c => V.str (S [c]) := by decide +kernel
theorem wrong_odd : ∀ c ∈ ([50, 10, 9, 32] : List Nat), c ≠ 48 ∧ c ≠ 49 := by decide
theorem str_x00 : Str.ofString "x" = S [120] ∧ Str.ofString "00" = S [48, 48] := by decide +kernel
def sp_law_goes_on (A : Adr) : L2.Sp := fun vs H Q _ => ∃ (b : Addr) (g : List Nat) (z : Nat) (cap : Int) (w : List Nat) (o : Nat) (i : Int), vs = [.ref b, .str (S w), .str (S (packS g z cap (st0 g) w)), .str (S [o]), .int i] ∧ BookAt A.C_Book H b g z cap ∧ BookOk g z cap ∧ (∀ c ∈ w, c ∈ g) ∧ w.length ≤ 12 ∧ o ∉ g ∧ LamX.Tabs (Tall A) H ∧
  ∀ H', LamX.ExtN H H' → LamX.Tabs (Tall A) H' → Q (.bl true) H'
theorem u_goes_on {A : Adr} {H : Hp} {Q : VK} {E : XK} {b : Addr} {g : List Nat} {z : Nat} {cap : Int} {w : List Nat} {o : Nat} {i : Int} (hb : BookAt A.C_Book H b g z cap) (bk : BookOk g z cap) (hw : ∀ c ∈ w, c ∈ g) (lw : w.length ≤ 12) (ho : o ∉ g) (hT : LamX.Tabs (Tall A) H)
    (q : ∀ H', LamX.ExtN H H' → LamX.Tabs (Tall A) H' → Q (.bl true) H') : sp_law_goes_on A [.ref b, .str (S w), .str (S (packS g z cap (st0 g) w)), .str (S [o]), .int i] H Q E := ⟨b, g, z, cap, w, o, i, rfl, hb, bk, hw, lw, ho, hT, q⟩
theorem ok_law_goes_on (T : Txt K mg A) (TB_law_goes_on : LamX.TabB base mg A.c_law_goes_on A.P_law_goes_on) : FnOk P w K mg base CX0 14 A.f_law_goes_on A.d_law_goes_on ["_law_book", "_law_text", "_law_bits", "_law_odd", "_law_at"] (sp_law_goes_on A) := by
  have G_Packer_put := ok_Packer_put (P := P) (w := w) (base := base) T
  have G_Unpacker_put := ok_Unpacker_put (P := P) (w := w) (base := base) T
  have G_law_stands := ok_law_stands (P := P) (w := w) (base := base) T
  have G_law_put_in := ok_law_put_in (P := P) (w := w) (base := base) T
  have G_report := ok_report (P := P) (w := w) (base := base) T
  have G_written := ok_written (P := P) (w := w) (base := base) T
  have G_Packer_init := ok_Packer_init (P := P) (w := w) (base := base) T
  have G_Unpacker_init := ok_Unpacker_init (P := P) (w := w) (base := base) T
  refine T.F_law_goes_on.okC sc_law_goes_on (fun vs H Q E h => by first | (obtain ⟨rfl, _⟩ := h; rfl) | (obtain ⟨_, rfl, _⟩ := h; rfl) | (obtain ⟨_, _, rfl, _⟩ := h; rfl) | (obtain ⟨_, _, _, rfl, _⟩ := h; rfl) | (obtain ⟨_, _, _, _, rfl, _⟩ := h; rfl) | (obtain ⟨_, _, _, _, _, rfl, _⟩ := h; rfl) | (obtain ⟨_, _, _, _, _, _, rfl, _⟩ := h; rfl) | (obtain ⟨_, _, _, _, _, _, _, rfl, _⟩ := h; rfl) | (obtain ⟨_, _, _, _, _, _, _, _, rfl, _⟩ := h; rfl) | (obtain ⟨_, _, _, _, _, _, _, _, _, rfl, _⟩ := h; rfl) | (obtain ⟨_, _, _, _, _, _, _, _, _, _, rfl, _⟩ := h; rfl) | (obtain ⟨_, _, _, _, _, _, _, _, _, _, _, rfl, _⟩ := h; rfl) | (obtain ⟨_, _, _, _, _, _, _, _, _, _, _, _, rfl, _⟩ := h; rfl) | (obtain ⟨_, _, _, _, _, _, _, _, _, _, _, _, _, rfl, _⟩ := h; rfl) | (obtain ⟨_, _, _, _, _, _, _, _, _, _, _, _, _, _, rfl, _⟩ := h; rfl) | (obtain ⟨_, _, _, _, _, _, _, _, _, _, _, _, _, _, _, rfl, _⟩ := h; rfl) | (obtain ⟨_, _, _, _, _, _, _, _, _, _, _, _, _, _, _, _, rfl, _⟩ := h; rfl) | (obtain ⟨_, _, _, _, _, _, _, _, _, _, _, _, _, _, _, _, _, rfl, _⟩ := h; rfl) | (obtain ⟨_, _, _, _, _, _, _, _, _, _, _, _, _, _, _, _, _, _, rfl, _⟩ := h; rfl) | (obtain ⟨_, _, _, _, _, _, _, _, _, _, _, _, _, _, _, _, _, _, _, rfl, _⟩ := h; rfl) | (obtain ⟨_, _, _, _, _, _, _, _, _, _, _, _, _, _, _, _, _, _, _, _, rfl, _⟩ := h; rfl) | (obtain ⟨_, _, _, _, _, _, _, _, _, _, _, _, _, _, _, _, _, _, _, _, _, rfl, _⟩ := h; rfl)) (fun cdv Ar outer s H vs Q E hcd hr h => ?_)
  have hcode : cdv = .ref A.c_law_goes_on := hcd.symm.trans T.cd_law_goes_on
  have hr_lam := hr.mono (by decide : 11 + 2 ≤ 13)
  obtain ⟨b, g, z, cap, w, o, i, rfl, hb, bk, hw, lw, ho, hT, q⟩ := h
  have hr_Packer_put := hr.mono (by decide : 7 ≤ 13)
  have hr_Unpacker_put := hr.mono (by decide : 9 ≤ 13)
  have hr_law_stands := hr.mono (by decide : 1 ≤ 13)
  have hm_Packer_init := hr.mono (by decide : 8 + 1 ≤ 13)
  have hm_Unpacker_init := hr.mono (by decide : 8 + 1 ≤ 13)
  have na_Unpacker_left := T.na_Unpacker_left
  have cl_Packer := T.cl_Packer
  have cl_Unpacker := T.cl_Unpacker
  refine ⟨_, (pss_cons (ps_set (i := 5) sc_law_goes_on.nd rfl (Or.inr rfl) (pe_make T.mk_Packer G_Packer_init hm_Packer_init rfl T.g_Packer T.b_Packer_init .nil pass0 (pa_cons (pv 0) pa_nil)))
      (pss_cons (ps_set (i := 6) sc_law_goes_on.nd rfl (Or.inr rfl) (pe_op op_fdiv (pe_callB call_len_str (by rfl) T.n_len PySem.boot_len (pa_cons (pv 1) pa_nil)) pe_int))
      (pss_cons (ps_set (i := 7) sc_law_goes_on.nd rfl (Or.inl rfl) (pe_meth (pv 5) T.cl_Packer T.m_Packer_put G_Packer_put hr_Packer_put T.b_Packer_put .nil passL (pa_cons (pe_slice sl_str (pv 1) po_none (po_some (pv 6))) pa_nil)))
      (pss_cons (ps_set (i := 8) sc_law_goes_on.nd rfl (Or.inl rfl) (pe_call G_law_stands hr_law_stands rfl T.g_law_stands T.F_law_stands.kp T.b_law_stands .nil pass0 (pa_cons (pv 5) pa_nil)))
      (pss_cons (ps_if (pt_cmpR op_ne (pe_give (k := 11) T.F_law_told rfl T.g_law_told T.b_law_told sc_law_told rfl (Or.inl rfl) (fun cdv => gives_law_told T (by decide) cdv) hr_lam (pa_cons (pe_lam0 (k := 11) (T := Tall A) TB_law_goes_on hcode (hm_law_goes_on A) (hu_law_goes_on T) ⟨(lamN_by2 (N := ["_law_book", "_law_text", "_law_bits", "_law_odd", "_law_at", "_law_packer", "_law_half", "_law_first", "_law_ahead", "_law_reader", "_law_cut", "_law_start", "_law_wrong"]) (sc := defScope s_law_goes_on) (x := none) (by decide +kernel)), fun _ _ _ _ _ => rfl, (fun n e => nomatch e), fun Al ol sl Hl El fl cl hrl => have hr_Packer_put := (hrl.mono (by decide : 7 ≤ 11)); have hr_law_put_in := (hrl.mono (by decide : 1 ≤ 11)); (pe_meth (pv 5) T.cl_Packer T.m_Packer_put G_Packer_put hr_Packer_put T.b_Packer_put .nil passLam (pa_cons (pe_call G_law_put_in hr_law_put_in rfl T.g_law_put_in T.F_law_put_in.kp T.b_law_put_in .nil pass0 (pa_cons (pe_slice sl_str (pv 1) (po_some (pv 6)) po_none) (pa_cons (pv 4) (pa_cons (pv 3) pa_nil)))) pa_nil))⟩) pa_nil)) pe_str (nomark _)) (pss_one (ps_ret pe_bl))
      pss_nil)
      (pss_cons (ps_if (pt_cmpR op_ne (pe_give (k := 11) T.F_law_told rfl T.g_law_told T.b_law_told sc_law_told rfl (Or.inl rfl) (fun cdv => gives_law_told T (by decide) cdv) hr_lam (pa_cons (pe_lam1 (k := 11) (T := Tall A) TB_law_goes_on hcode (hm_law_goes_on A) (hu_law_goes_on T) ⟨(lamN_by2 (N := ["_law_book", "_law_text", "_law_bits", "_law_odd", "_law_at", "_law_packer", "_law_half", "_law_first", "_law_ahead", "_law_reader", "_law_cut", "_law_start", "_law_wrong"]) (sc := defScope s_law_goes_on) (x := some "_law_one") (by decide +kernel)), (fun e => nomatch e), fun n e dV doc pm cv ctv => by (cases e; exact ⟨_, rfl, fun _ => rfl⟩), fun Al ol sl Hl El fl cl hrl => have hr_law_put_in := (hrl.mono (by decide : 1 ≤ 11)); have hr_report := (hrl.mono (by decide : 10 ≤ 11)); (pe_call G_report hr_report rfl T.g_report T.F_report.kp T.b_report .nil passLam (pa_cons (pv 0) (pa_cons (pe_call G_law_put_in hr_law_put_in rfl T.g_law_put_in T.F_law_put_in.kp T.b_law_put_in .nil pass0 (pa_cons (pv 1) (pa_cons (pe_op op_fdiv (pv 4) pe_int) (pa_cons (pv 3) pa_nil)))) pa_nil)))⟩) pa_nil)) pe_str (nomark _)) (pss_one (ps_ret pe_bl))
      pss_nil)
      (pss_cons (ps_if (pt_cmpR op_ne (pe_give (k := 11) T.F_law_told rfl T.g_law_told T.b_law_told sc_law_told rfl (Or.inl rfl) (fun cdv => gives_law_told T (by decide) cdv) hr_lam (pa_cons (pe_lam1 (k := 11) (T := Tall A) TB_law_goes_on hcode (hm_law_goes_on A) (hu_law_goes_on T) ⟨(lamN_by2 (N := ["_law_book", "_law_text", "_law_bits", "_law_odd", "_law_at", "_law_packer", "_law_half", "_law_first", "_law_ahead", "_law_reader", "_law_cut", "_law_start", "_law_wrong"]) (sc := defScope s_law_goes_on) (x := some "_law_other") (by decide +kernel)), (fun e => nomatch e), fun n e dV doc pm cv ctv => by (cases e; exact ⟨_, rfl, fun _ => rfl⟩), fun Al ol sl Hl El fl cl hrl => have hr_law_put_in := (hrl.mono (by decide : 1 ≤ 11)); have hr_written := (hrl.mono (by decide : 11 ≤ 11)); (pe_call G_written hr_written rfl T.g_written T.F_written.kp T.b_written .nil passLam (pa_cons (pv 0) (pa_cons (pe_call G_law_put_in hr_law_put_in rfl T.g_law_put_in T.F_law_put_in.kp T.b_law_put_in .nil pass0 (pa_cons (pv 1) (pa_cons (pe_op op_fdiv (pv 4) pe_int) (pa_cons (pv 3) pa_nil)))) pa_nil)))⟩) pa_nil)) pe_str (nomark _)) (pss_one (ps_ret pe_bl))
      pss_nil)
      (pss_cons (ps_if (PW.pt (pw_or (pt_cmpR (op_neDK (K := K) (hu64 hr)) (pe_call G_law_stands hr_law_stands rfl T.g_law_stands T.F_law_stands.kp T.b_law_stands .nil pass0 (pa_cons (pv 5) pa_nil)) (pv 8) (nomark _)) (pw_or1 (pt_cmpR op_ne (pe_op op_add_str (pv 7) (pe_meth (pv 5) T.cl_Packer T.m_Packer_put G_Packer_put hr_Packer_put T.b_Packer_put .nil passL (pa_cons (pe_slice sl_str (pv 1) (po_some (pv 6)) po_none) pa_nil))) (pv 2) (nomark _))))) (pss_one (ps_ret pe_bl))
      pss_nil)
      (pss_cons (ps_set (i := 9) sc_law_goes_on.nd rfl (Or.inr rfl) (pe_make T.mk_Unpacker G_Unpacker_init hm_Unpacker_init rfl T.g_Unpacker T.b_Unpacker_init .nil passL (pa_cons (pv 0) (pa_cons (pe_callB call_len_str (by rfl) T.n_len PySem.boot_len (pa_cons (pv 1) pa_nil)) pa_nil))))
      (pss_cons (ps_set (i := 10) sc_law_goes_on.nd rfl (Or.inr rfl) (pe_op op_fdiv (pe_callB call_len_str (by rfl) T.n_len PySem.boot_len (pa_cons (pv 2) pa_nil)) pe_int))
      (pss_cons (ps_set (i := 11) sc_law_goes_on.nd rfl (Or.inl rfl) (pe_meth (pv 9) T.cl_Unpacker T.m_Unpacker_put G_Unpacker_put hr_Unpacker_put T.b_Unpacker_put .nil passL (pa_cons (pe_slice sl_str (pv 2) po_none (po_some (pv 10))) pa_nil)))
      (pss_cons (ps_set (i := 8) sc_law_goes_on.nd rfl (Or.inl rfl) (pe_call G_law_stands hr_law_stands rfl T.g_law_stands T.F_law_stands.kp T.b_law_stands .nil pass0 (pa_cons (pv 9) pa_nil)))
      (pss_cons (ps_set (i := 12) sc_law_goes_on.nd rfl (Or.inr rfl) (pe_ix (ix_listK (K := K)) (pe_lst (pa_cons pe_str (pa_cons pe_str (pa_cons pe_str (pa_cons pe_str pa_nil))))) (pe_op op_mod (pe_op op_fdiv (pv 4) pe_int) pe_int) (fun _ _ => rfl)))
      (pss_cons (ps_if (pt_cmpR op_ne (pe_give (k := 11) T.F_law_told rfl T.g_law_told T.b_law_told sc_law_told rfl (Or.inl rfl) (fun cdv => gives_law_told T (by decide) cdv) hr_lam (pa_cons (pe_lam1 (k := 11) (T := Tall A) TB_law_goes_on hcode (hm_law_goes_on A) (hu_law_goes_on T) ⟨(lamN_by2 (N := ["_law_book", "_law_text", "_law_bits", "_law_odd", "_law_at", "_law_packer", "_law_half", "_law_first", "_law_ahead", "_law_reader", "_law_cut", "_law_start", "_law_wrong"]) (sc := defScope s_law_goes_on) (x := some "_law_two") (by decide +kernel)), (fun e => nomatch e), fun n e dV doc pm cv ctv => by (cases e; exact ⟨_, rfl, fun _ => rfl⟩), fun Al ol sl Hl El fl cl hrl => have hr_Unpacker_put := (hrl.mono (by decide : 9 ≤ 11)); have hr_law_put_in := (hrl.mono (by decide : 1 ≤ 11)); (pe_meth (pv 9) T.cl_Unpacker T.m_Unpacker_put G_Unpacker_put hr_Unpacker_put T.b_Unpacker_put .nil passLam (pa_cons (pe_call G_law_put_in hr_law_put_in rfl T.g_law_put_in T.F_law_put_in.kp T.b_law_put_in .nil pass0 (pa_cons (pe_slice sl_str (pv 2) (po_some (pv 10)) po_none) (pa_cons (pv 4) (pa_cons (pv 12) pa_nil)))) pa_nil))⟩) pa_nil)) pe_str (nomark _)) (pss_one (ps_ret pe_bl))
      pss_nil)
      (pss_cons (ps_if (PW.pt (pw_or (pt_cmpR (op_neDK (K := K) (hu64 hr)) (pe_call G_law_stands hr_law_stands rfl T.g_law_stands T.F_law_stands.kp T.b_law_stands .nil pass0 (pa_cons (pv 9) pa_nil)) (pv 8) (nomark _)) (pw_or1 (pt_cmpR op_ne (pe_fldK (K := K) (pv 9)) (pe_op op_sub (pe_callB call_len_str (by rfl) T.n_len PySem.boot_len (pa_cons (pv 1) pa_nil)) (pe_callB call_len_str (by rfl) T.n_len PySem.boot_len (pa_cons (pv 11) pa_nil))) (nomark _))))) (pss_one (ps_ret pe_bl))
      pss_nil)
      (pss_cons (ps_if (pt_cmpR op_ne (pe_give (k := 11) T.F_law_told rfl T.g_law_told T.b_law_told sc_law_told rfl (Or.inl rfl) (fun cdv => gives_law_told T (by decide) cdv) hr_lam (pa_cons (pe_lam1 (k := 11) (T := Tall A) TB_law_goes_on hcode (hm_law_goes_on A) (hu_law_goes_on T) ⟨(lamN_by2 (N := ["_law_book", "_law_text", "_law_bits", "_law_odd", "_law_at", "_law_packer", "_law_half", "_law_first", "_law_ahead", "_law_reader", "_law_cut", "_law_start", "_law_wrong"]) (sc := defScope s_law_goes_on) (x := some "_law_more") (by decide +kernel)), (fun e => nomatch e), fun n e dV doc pm cv ctv => by (cases e; exact ⟨_, rfl, fun _ => rfl⟩), fun Al ol sl Hl El fl cl hrl => have hr_Unpacker_put := (hrl.mono (by decide : 9 ≤ 11)); (pe_meth (pv 9) T.cl_Unpacker T.m_Unpacker_put G_Unpacker_put hr_Unpacker_put T.b_Unpacker_put .nil passLam (pa_cons (pe_op op_add_str (pe_slice sl_str (pv 2) (po_some (pv 10)) po_none) pe_str) pa_nil))⟩) pa_nil)) pe_str (nomark _)) (pss_one (ps_ret pe_bl))
      pss_nil)
      (pss_cons (ps_if (PW.pt (pw_or (pt_cmpR (op_neDK (K := K) (hu64 hr)) (pe_call G_law_stands hr_law_stands rfl T.g_law_stands T.F_law_stands.kp T.b_law_stands .nil pass0 (pa_cons (pv 9) pa_nil)) (pv 8) (nomark _)) (pw_or1 (pt_cmpR op_ne (pe_fldK (K := K) (pv 9)) (pe_op op_sub (pe_callB call_len_str (by rfl) T.n_len PySem.boot_len (pa_cons (pv 1) pa_nil)) (pe_callB call_len_str (by rfl) T.n_len PySem.boot_len (pa_cons (pv 11) pa_nil))) (nomark _))))) (pss_one (ps_ret pe_bl))
      pss_nil)
      (pss_cons (ps_if (PW.pt (pw_or (pt_cmpR op_ne (pe_op op_add_str (pv 11) (pe_meth (pv 9) T.cl_Unpacker T.m_Unpacker_put G_Unpacker_put hr_Unpacker_put T.b_Unpacker_put .nil passL (pa_cons (pe_slice sl_str (pv 2) (po_some (pv 10)) po_none) pa_nil))) (pv 1) (nomark _)) (pw_or1 (pt_cmpR op_ne (pe_fldK (K := K) (pv 9)) pe_int (nomark _))))) (pss_one (ps_ret pe_bl))
      pss_nil)
      (pss_cons (ps_if (pt_cmpR op_ne (pe_give (k := 11) T.F_law_told rfl T.g_law_told T.b_law_told sc_law_told rfl (Or.inl rfl) (fun cdv => gives_law_told T (by decide) cdv) hr_lam (pa_cons (pe_lam1 (k := 11) (T := Tall A) TB_law_goes_on hcode (hm_law_goes_on A) (hu_law_goes_on T) ⟨(lamN_by2 (N := ["_law_book", "_law_text", "_law_bits", "_law_odd", "_law_at", "_law_packer", "_law_half", "_law_first", "_law_ahead", "_law_reader", "_law_cut", "_law_start", "_law_wrong"]) (sc := defScope s_law_goes_on) (x := some "_law_three") (by decide +kernel)), (fun e => nomatch e), fun n e dV doc pm cv ctv => by (cases e; exact ⟨_, rfl, fun _ => rfl⟩), fun Al ol sl Hl El fl cl hrl => have hr_Unpacker_put := (hrl.mono (by decide : 9 ≤ 11)); (pe_meth (pv 9) T.cl_Unpacker T.m_Unpacker_put G_Unpacker_put hr_Unpacker_put T.b_Unpacker_put .nil passLam (pa_cons pe_str pa_nil))⟩) pa_nil)) pe_str (nomark _)) (pss_one (ps_ret pe_bl))
      pss_nil)
      (pss_cons (ps_if (pt_cmpR op_ne (pe_give (k := 11) T.F_law_told rfl T.g_law_told T.b_law_told sc_law_told rfl (Or.inl rfl) (fun cdv => gives_law_told T (by decide) cdv) hr_lam (pa_cons (pe_lam1 (k := 11) (T := Tall A) TB_law_goes_on hcode (hm_law_goes_on A) (hu_law_goes_on T) ⟨(lamN_by2 (N := ["_law_book", "_law_text", "_law_bits", "_law_odd", "_law_at", "_law_packer", "_law_half", "_law_first", "_law_ahead", "_law_reader", "_law_cut", "_law_start", "_law_wrong"]) (sc := defScope s_law_goes_on) (x := some "_law_four") (by decide +kernel)), (fun e => nomatch e), fun n e dV doc pm cv ctv => by (cases e; exact ⟨_, rfl, fun _ => rfl⟩), fun Al ol sl Hl El fl cl hrl => have hr_Unpacker_put := (hrl.mono (by decide : 9 ≤ 11)); have hr_law_put_in := (hrl.mono (by decide : 1 ≤ 11)); (pe_meth (pv 9) T.cl_Unpacker T.m_Unpacker_put G_Unpacker_put hr_Unpacker_put T.b_Unpacker_put .nil passLam (pa_cons (pe_call G_law_put_in hr_law_put_in rfl T.g_law_put_in T.F_law_put_in.kp T.b_law_put_in .nil pass0 (pa_cons pe_str (pa_cons (pv 4) (pa_cons pe_str pa_nil)))) pa_nil))⟩) pa_nil)) pe_str (nomark _)) (pss_one (ps_ret pe_bl))
      pss_nil)
      (pss_one (ps_ret (pe_and (pe_cmpR op_eq (pe_meth (pv 9) T.cl_Unpacker T.m_Unpacker_put G_Unpacker_put hr_Unpacker_put T.b_Unpacker_put .nil passL (pa_cons pe_str pa_nil)) pe_str (nomark _)) (pe_one (pe_cmpR op_eq (pe_fldK (K := K) (pv 9)) pe_int (nomark _)))))))))))))))))))))))))), ?_⟩
  refine w_start (σ' := [some _, some _, some _, some _, some _, none, none, none, none, none, none, none, none]) rfl ?_
  try dsimp only [cxOf, Cx.nox, Cx.wish]
  have few := bk.few
  have pb := packS_bits (st := st0 g) bk (ones_ok bk) hw
  have p01 := pb.1
  have lp : (packS g z cap (st0 g) w).length ≤ 500 := by have := pb.2; omega
  have zw : w.length ≤ sizeLine := Nat.le_trans lw (by decide)
  have zp := Nat.le_trans lp (show 500 ≤ sizeLine by decide)
  have nx : ∀ (l : List Nat) (j : Nat), ¬ ∀ c ∈ l.take j ++ [o] ++ l.drop j, c ∈ g := fun l j h => ho (h o (List.mem_append_left _ (List.mem_append_right _ List.mem_cons_self)))
  walk_at "ss"
  refine u_Packer hb bk (fun k p H1 s1 hk hp nkp hP hl => ?_)
  have nbp : b ≠ p := let ⟨_, e⟩ := hb; ne_of_none e hp
  have nbk : b ≠ k := let ⟨_, e⟩ := hb; ne_of_none e hk
  obtain ⟨dk, hkk⟩ := id hP
  walk_at "ss"
  refine w_lenX zw ?_
  rw [S_len]
  walk_at "ss"
  rw [show (w.length : Int) / 2 = ((w.length / 2 : Nat) : Int) by omega]
  generalize hh : w.length / 2 = h
  have it : ∀ c ∈ w.take h, c ∈ g := fun c hc => hw c (List.mem_of_mem_take hc)
  have id' : ∀ c ∈ w.drop h, c ∈ g := fun c hc => hw c (List.mem_of_mem_drop hc)
  have lt : (w.take h).length ≤ 12 := by rw [List.length_take]; omega
  have ld : (w.drop h).length ≤ 12 := by rw [List.length_drop]; omega
  have ok1 : StOk g z (runS g z cap (st0 g) (w.take h)) := runS_ok bk (ones_ok bk)
  have sh1 := stand_shaped ok1.good (wt := (runS g z cap (st0 g) (w.take h)).2) fun c hc => by
    have := bk.plain c (runS_wait (st := st0 g) (fun c hc => (List.not_mem_nil hc).elim) it c hc)
    omega
  refine w_slS (by rw [S_len]; exact zw) ?_
  rw [cutS_to]
  walk_at "ss"
  refine u_put (st := st0 g) hP hl (hb.same s1) bk (ones_ok bk) nbp nkp it (by omega) (fun H2 s2 hl2 => ?_)
  have hb2 := (hb.same s1).but s2 nbp
  have hP2 := hP.but s2 nkp
  have S2 : Same H H2 := s2.same s1 hp
  walk_at "ss"
  refine u_standsP hP2 hl2 (fun H3 x3 s3 sA3 => ?_)
  have hb3 := hb2.same s3
  have hP3 := hP2.same s3
  have hl3 := hl2.same s3
  have S3 : Same H H3 := S2.trans s3
  have T3 := hT.ext S3
  walk_at "ss"
  refine w_lamV T3 (fun f4 H4 e4 T4 l4 => ?_)
  have hb4 := hb3.ext e4
  have hP4 := hP3.ext e4
  have hl4 := hl3.ext e4
  have sA4 := sA3.ext e4
  obtain ⟨dk4, hkk4⟩ := id hP4
  walk_at "ss"
  refine w_given l4 ?_
  dsimp only [TTtold]
  walk_at "ss"
  refine w_slS (by rw [S_len]; exact zw) ?_
  rw [cutS_from]
  walk_at "ss"
  refine u_put_in (by omega) (by rw [List.length_singleton]; decide) (fun j hj => ?_)
  walk_at "ss"
  refine u_putX hP4 ⟨g, z, cap, hb4, bk, nx _ j, fun H5 s5 => ⟨rfl, .sign, rfl, ?_⟩⟩
  have hb5 := hb4.same s5
  have hP5 := hP4.same s5
  have hl5 := hl4.same s5
  have sA5 := sA4.ext (LamX.ExtN.of s5)
  have T5 := T4.ext s5
  walk_at "ss"
  refine w_iteN (fun h => (h rfl).elim) (fun _ => ?_)
  walk_at "ss"
  refine w_lamV T5 (fun f6 H6 e6 T6 l6 => ?_)
  have hb6 := hb5.ext e6
  have hP6 := hP5.ext e6
  have hl6 := hl5.ext e6
  have sA6 := sA5.ext e6
  obtain ⟨dk6, hkk6⟩ := id hP6
  walk_at "ss"
  refine w_given l6 ?_
  dsimp only [TTtold]
  walk_at "ss"
  refine u_put_in (by omega) (by rw [List.length_singleton]; decide) (fun j hj => ?_)
  walk_at "ss"
  refine u_reportX ⟨g, z, cap, hb6, bk, nx _ j, fun H7 s7 => ⟨rfl, .sign, rfl, ?_⟩⟩
  have hb7 := hb6.same s7
  have hP7 := hP6.same s7
  have hl7 := hl6.same s7
  have sA7 := sA6.ext (LamX.ExtN.of s7)
  have T7 := T6.ext s7
  walk_at "ss"
  refine w_iteN (fun h => (h rfl).elim) (fun _ => ?_)
  walk_at "ss"
  refine w_lamV T7 (fun f8 H8 e8 T8 l8 => ?_)
  have hb8 := hb7.ext e8
  have hP8 := hP7.ext e8
  have hl8 := hl7.ext e8
  have sA8 := sA7.ext e8
  obtain ⟨dk8, hkk8⟩ := id hP8
  walk_at "ss"
  refine w_given l8 ?_
  dsimp only [TTtold]
  walk_at "ss"
  refine u_put_in (by omega) (by rw [List.length_singleton]; decide) (fun j hj => ?_)
  walk_at "ss"
  refine u_writtenX ⟨g, z, cap, hb8, bk, nx _ j, fun H9 s9 => ⟨rfl, .sign, rfl, ?_⟩⟩
  have hb9 := hb8.same s9
  have hP9 := hP8.same s9
  have hl9 := hl8.same s9
  have sA9 := sA8.ext (LamX.ExtN.of s9)
  have T9 := T8.ext s9
  walk_at "ss"
  refine w_iteN (fun h => (h rfl).elim) (fun _ => ?_)
  walk_at "ss"
  refine u_standsP hP9 hl9 (fun H10 x10 s10 sB10 => ?_)
  have hb10 := hb9.same s10
  have hP10 := hP9.same s10
  have hl10 := hl9.same s10
  have sA10 := sA9.ext (LamX.ExtN.of s10)
  have T10 := T9.ext s10
  obtain ⟨dk10, hkk10⟩ := id hP10
  obtain ⟨dl10, sa10, wa10, hpl10, _, _⟩ := id hl10.ex
  walk_at "ss"
  refine w_neS (stand_dp sB10) (stand_dp sA10) sh1 ?_
  walk_at "ss"
  refine w_slS (by rw [S_len]; exact zw) ?_
  rw [cutS_from]
  walk_at "ss"
  refine u_put (st := runS g z cap (st0 g) (w.take h)) hP10 hl10 hb10 bk ok1 nbp nkp id' (by omega) (fun H11 s11 hl11 => ?_)
  have hb11 := hb10.but s11 nbp
  have T11 := tabs_sameP T10 s11 hpl10
  have x10 : LamX.ExtN H H10 := (((((((LamX.ExtN.of S3).trans e4).trans (LamX.ExtN.of s5)).trans e6).trans (LamX.ExtN.of s7)).trans e8).trans (LamX.ExtN.of s9)).trans (LamX.ExtN.of s10)
  have x11 : LamX.ExtN H H11 := extN_sameP x10 (LamX.ExtN.refl H) hp s11
  have whole : packS g z cap (st0 g) (w.take h) ++ packS g z cap (runS g z cap (st0 g) (w.take h)) (w.drop h) = packS g z cap (st0 g) w := by rw [← packS_app, List.take_append_drop]
  have lwhole : (packS g z cap (st0 g) (w.take h)).length + (packS g z cap (runS g z cap (st0 g) (w.take h)) (w.drop h)).length ≤ 500 := by rw [← List.length_append, whole]; exact lp
  refine w_addX (Nat.le_trans lwhole (by decide)) ?_
  rw [S_cat, whole]
  walk_at "ss"
  refine w_iteNX (fun h => (h rfl).elim) (fun _ => ?_)
  clear hP hl hP2 hl2 hP3 hl3 hP4 hl4 hP5 hl5 hP6 hl6 hP7 hl7 hP8 hl8 hP9 hl9 hP10 hl10 sA3 sA4 sA5 sA6 sA7 sA8 sA9 sA10 sB10 hb2 hb3 hb4 hb5 hb6 hb7 hb8 hb9 hb10 T3 T4 T5 T6 T7 T8 T9 T10 l4 l6 l8 hkk hkk4 hkk6 hkk8 hkk10 hpl10
  walk_at "ss"
  refine w_lenX zw ?_
  rw [S_len]
  walk_at "ss"
  refine u_Unpacker (v := .int (w.length : Int)) hb11 bk trivial (fun hn => by rw [whole_nat (by omega)] at hn; cases hn) (fun m hm lm k2 p2 H12 s12 hk2 hp2 nkp2 hU hl12 => ?_)
  obtain rfl : m = w.length := by
    have := V.int.inj hm
    omega
  have hb12 := hb11.same s12
  have T12 := T11.ext s12
  have x12 := x11.trans (LamX.ExtN.of s12)
  have nbk2 : b ≠ k2 := let ⟨_, e⟩ := hb11; ne_of_none e hk2
  obtain ⟨dku, hku⟩ := id hU
  walk_at "ss"
  refine w_lenX zp ?_
  rw [S_len]
  walk_at "ss"
  rw [show ((packS g z cap (st0 g) w).length : Int) / 2 = (((packS g z cap (st0 g) w).length / 2 : Nat) : Int) by omega]
  generalize hc : (packS g z cap (st0 g) w).length / 2 = c
  have split2 : (packS g z cap (st0 g) w).take c ++ (packS g z cap (st0 g) w).drop c = packS g z cap (st0 g) w := List.take_append_drop _ _
  obtain ⟨r0, two⟩ := unpA_two (st := st0 g) bk (ones_ok bk) hw split2
  have b1l : ((packS g z cap (st0 g) w).take c).length ≤ 500 := by rw [List.length_take]; omega
  have b2l : ((packS g z cap (st0 g) w).drop c).length ≤ 500 := by rw [List.length_drop]; omega
  have b1o : ∀ x ∈ (packS g z cap (st0 g) w).take c, x = 48 ∨ x = 49 := fun x hx => p01 x (List.mem_of_mem_take hx)
  have b2o : ∀ x ∈ (packS g z cap (st0 g) w).drop c, x = 48 ∨ x = 49 := fun x hx => p01 x (List.mem_of_mem_drop hx)
  have zb2 := Nat.le_trans b2l (show 500 ≤ sizeLine by decide)
  refine w_slS (by rw [S_len]; exact zp) ?_
  rw [cutS_to]
  walk_at "ss"
  refine u_uput (st := st0 g) ⟨hU, hl12, hb12, bk, ones_ok bk, lm, by omega, Nat.zero_le _, nbk2⟩ (fun hn => (hn b1o).elim) (fun _ R hR => ?_)
  have hR' : unpA g z cap (st0 g) w.length [] ((packS g z cap (st0 g) w).take c) = R := hR
  rw [hR'] at r0 two
  have tl : R.told.length ≤ w.length := by rw [← hR]; exact unp_len _ _ _ _ _
  obtain ⟨u1, u2, u3⟩ := unp_st bk (w.length + ((packS g z cap (st0 g) w).take c).length) (st0 g) w.length [] ((packS g z cap (st0 g) w).take c) (ones_ok bk)
  rw [hR] at u1 u2 u3
  rw [List.length_nil] at u3
  refine ⟨fun hr => (hr r0).elim, fun hr H13 p3 s13 hp3 hU13 hl13 ok13 => ?_⟩
  have hb13 := hb12.but s13 nbk2
  have T13 := tabs_sameP T12 s13 hku
  have x13 := extN_sameP x12 x11 hk2 s13
  have sh2 := stand_shaped ok13.good (wt := R.st.2) fun x hx => by
    rw [u1] at hx
    have := bk.plain x (runS_wait (st := st0 g) (fun c hc => (List.not_mem_nil hc).elim) u2 x hx)
    omega
  walk_at "ss"
  refine u_standsU hU13 hl13 (fun H14 x14 s14 sA14 => ?_)
  have hb14 := hb13.same s14
  have hU14 := hU13.same s14
  have hl14 := hl13.same s14
  have T14 := T13.ext s14
  have e14 := x13.trans (LamX.ExtN.of s14)
  walk_at "ss"
  refine w_new (fun pw H15 s15 hpw hw15 => ?_)
  rw [wrong_signs] at hw15
  have hb15 := hb14.same s15
  have hU15 := hU14.same s15
  have hl15 := hl14.same s15
  have T15 := T14.ext s15
  have sA15 := sA14.ext (LamX.ExtN.of s15)
  have e15 := e14.trans (LamX.ExtN.of s15)
  have k0 := Int.emod_nonneg (i / 7) (show (4 : Int) ≠ 0 by decide)
  have k1 := Int.emod_lt_of_pos (i / 7) (show (0 : Int) < 4 by decide)
  obtain ⟨kk, hkk⟩ := Int.eq_ofNat_of_zero_le k0
  have hk4 : kk < ([50, 10, 9, 32] : List Nat).length := by show kk < 4; omega
  obtain ⟨d, hd⟩ : ∃ d, ([50, 10, 9, 32] : List Nat)[kk]? = some d := ⟨_, List.getElem?_eq_getElem hk4⟩
  obtain ⟨d1, d2⟩ := wrong_odd d (List.mem_of_getElem? hd)
  walk_at "ss"
  rw [hkk]
  refine w_ixL (v := .str (S [d])) (SqL.of hw15) (atI_nat (by rw [List.getElem?_map, hd]; rfl)) ?_
  walk_at "ss"
  refine w_lamV T15 (fun f16 H16 e16 T16 l16 => ?_)
  have hb16 := hb15.ext e16
  have hU16 := hU15.ext e16
  have hl16 := hl15.ext e16
  have sA16 := sA15.ext e16
  have x16 := e15.trans e16
  obtain ⟨dk16, hku16⟩ := id hU16
  walk_at "ss"
  refine w_given l16 ?_
  dsimp only [TTtold]
  walk_at "ss"
  refine w_slS (by rw [S_len]; exact zp) ?_
  rw [cutS_from]
  walk_at "ss"
  refine u_put_in (by omega) (by rw [List.length_singleton]; decide) (fun j hj => ?_)
  walk_at "ss"
  have lj : (((packS g z cap (st0 g) w).drop c).take j ++ [d] ++ ((packS g z cap (st0 g) w).drop c).drop j).length ≤ 2000 := by
    have a1 := List.length_take (i := j) (l := (packS g z cap (st0 g) w).drop c)
    have a2 := List.length_drop (i := j) (l := (packS g z cap (st0 g) w).drop c)
    rw [List.length_append, List.length_append, List.length_singleton]
    omega
  refine u_uput (st := R.st) ⟨hU16, hl16, hb16, bk, ok13, by omega, by omega, by omega, nbk2⟩ (fun _ => ⟨rfl, .bit, rfl, ?_⟩) (fun h01 => (by
    rcases h01 d (List.mem_append_left _ (List.mem_append_right _ List.mem_cons_self)) with e | e
    · exact (d1 e).elim
    · exact (d2 e).elim))
  walk_at "ss"
  refine w_iteN (fun h => (h rfl).elim) (fun _ => ?_)
  walk_at "ss"
  refine u_standsU hU16 hl16 (fun H17 x17 s17 sB17 => ?_)
  have hb17 := hb16.same s17
  have hU17 := hU16.same s17
  have hl17 := hl16.same s17
  have sA17 := sA16.ext (LamX.ExtN.of s17)
  have T17 := T16.ext s17
  have e17 := x16.trans (LamX.ExtN.of s17)
  obtain ⟨dk17, hku17⟩ := id hU17
  walk_at "ss"
  refine w_neS (stand_dp sB17) (stand_dp sA17) sh2 ?_
  walk_at "ss"
  refine w_lenX zw ?_
  rw [S_len]
  walk_at "ss"
  refine w_lenX (Nat.le_trans (show R.told.length ≤ 12 by omega) (by decide)) ?_
  rw [S_len]
  walk_at "ss"
  refine w_iteNI (fun h => (h (by omega)).elim) (fun _ => ?_)
  walk_at "ss"
  refine w_lamV T17 (fun f18 H18 e18 T18 l18 => ?_)
  have hb18 := hb17.ext e18
  have hU18 := hU17.ext e18
  have hl18 := hl17.ext e18
  have sA18 := sA17.ext e18
  have x18 := e17.trans e18
  obtain ⟨dk18, hku18⟩ := id hU18
  walk_at "ss"
  refine w_given l18 ?_
  dsimp only [TTtold]
  walk_at "ss"
  refine w_slS (by rw [S_len]; exact zp) ?_
  rw [cutS_from, show Str.ofString "0" = S [48] from str_0]
  walk_at "ss"
  refine w_addX (by rw [List.length_singleton]; exact Nat.le_trans (show _ ≤ 501 by omega) (by decide)) ?_
  rw [S_cat]
  walk_at "ss"
  have lz : ((packS g z cap (st0 g) w).drop c ++ [48]).length ≤ 501 := by rw [List.length_append, List.length_singleton]; omega
  refine u_uput (st := R.st) ⟨hU18, hl18, hb18, bk, ok13, by omega, by omega, by omega, nbk2⟩ (fun hn => (hn fun x hx => (List.mem_append.mp hx).elim (b2o x) (fun h => .inl (List.mem_singleton.mp h))).elim) (fun _ R2 hR2 => ?_)
  obtain ⟨w2', ew', eR'⟩ := two [48]
  have hR2' : unpA g z cap R.st (w.length - R.told.length) R.word ((packS g z cap (st0 g) w).drop c ++ [48]) = R2 := hR2
  rw [eR'] at hR2'
  subst hR2'
  refine ⟨fun _ H19 s19 => ⟨rfl, .loose, rfl, ?_⟩, fun hr => absurd hr (by intro e; cases e)⟩
  have hb19 := hb18.same s19
  have hU19 := hU18.same s19
  have hl19 := hl18.same s19
  have sA19 := sA18.ext (LamX.ExtN.of s19)
  have T19 := T18.ext s19
  have e19 := x18.trans (LamX.ExtN.of s19)
  walk_at "ss"
  refine w_iteN (fun h => (h rfl).elim) (fun _ => ?_)
  walk_at "ss"
  refine u_standsU hU19 hl19 (fun H20 x20 s20 sB20 => ?_)
  have hb20 := hb19.same s20
  have hU20 := hU19.same s20
  have hl20 := hl19.same s20
  have sA20 := sA19.ext (LamX.ExtN.of s20)
  have T20 := T19.ext s20
  have e20 := e19.trans (LamX.ExtN.of s20)
  obtain ⟨dk20, hku20⟩ := id hU20
  walk_at "ss"
  refine w_neS (stand_dp sB20) (stand_dp sA20) sh2 ?_
  walk_at "ss"
  refine w_lenX zw ?_
  rw [S_len]
  walk_at "ss"
  refine w_lenX (Nat.le_trans (show R.told.length ≤ 12 by omega) (by decide)) ?_
  rw [S_len]
  walk_at "ss"
  refine w_iteNI (fun h => (h (by omega)).elim) (fun _ => ?_)
  walk_at "ss"
  refine w_slS (by rw [S_len]; exact zp) ?_
  rw [cutS_from]
  walk_at "ss"
  obtain ⟨w2, ew, eR⟩ := two []
  rw [List.append_nil] at eR
  have lw2 : w.length = R.told.length + w2.length := by
    have := congrArg List.length ew
    rw [List.length_append] at this
    exact this
  refine u_uput (st := R.st) ⟨hU20, hl20, hb20, bk, ok13, by omega, by omega, by omega, nbk2⟩ (fun hn => (hn b2o).elim) (fun _ R3 hR3 => ?_)
  have hR3' : unpA g z cap R.st (w.length - R.told.length) R.word ((packS g z cap (st0 g) w).drop c) = R3 := hR3
  rw [eR] at hR3'
  subst hR3'
  refine ⟨fun hr => absurd rfl hr, fun _ H21 p4 s21 hp4 hU21 hl21 ok21 => ?_⟩
  dsimp only at hU21 hl21 ok21
  rw [show w.length - R.told.length - w2.length = 0 by omega] at hU21
  have hb21 := hb20.but s21 nbk2
  have T21 := tabs_sameP T20 s21 hku20
  have x21 := extN_sameP e20 x11 hk2 s21
  obtain ⟨dk21, hku21⟩ := id hU21
  refine w_addX (Nat.le_trans (show R.told.length + w2.length ≤ 12 by omega) (by decide)) ?_
  rw [S_cat, ← ew]
  walk_at "ss"
  refine w_iteNX (fun h => (h rfl).elim) (fun _ => ?_)
  walk_at "ss"
  refine w_iteNI (fun h => (h rfl).elim) (fun _ => ?_)
  walk_at "ss"
  refine w_lamV T21 (fun f22 H22 e22 T22 l22 => ?_)
  have hb22 := hb21.ext e22
  have hU22 := hU21.ext e22
  have hl22 := hl21.ext e22
  have x22 := x21.trans e22
  obtain ⟨dk22, hku22⟩ := id hU22
  walk_at "ss"
  refine w_given l22 ?_
  dsimp only [TTtold]
  rw [show Str.ofString "1" = S [49] from str_1]
  walk_at "ss"
  refine u_uput (st := runS g z cap (st0 g) w) (L := 0) (rest := []) ⟨hU22, hl22, hb22, bk, ok21, by decide, by decide, by decide, nbk2⟩ (fun hn => (hn (by decide)).elim) (fun _ R4 hR4 => ?_)
  rw [unp_zero] at hR4
  subst hR4
  refine ⟨fun _ H23 s23 => ⟨rfl, .loose, rfl, ?_⟩, fun hr => absurd hr (by intro e; cases e)⟩
  have hb23 := hb22.same s23
  have hU23 := hU22.same s23
  have hl23 := hl22.same s23
  have T23 := T22.ext s23
  have x23 := x22.trans (LamX.ExtN.of s23)
  walk_at "ss"
  refine w_iteN (fun h => (h rfl).elim) (fun _ => ?_)
  walk_at "ss"
  refine w_lamV T23 (fun f24 H24 e24 T24 l24 => ?_)
  have hb24 := hb23.ext e24
  have hU24 := hU23.ext e24
  have hl24 := hl23.ext e24
  have x24 := x23.trans e24
  obtain ⟨dk24, hku24⟩ := id hU24
  walk_at "ss"
  refine w_given l24 ?_
  dsimp only [TTtold]
  rw [str_x00.1, str_x00.2]
  walk_at "ss"
  refine u_put_in (by decide) (by decide) (fun j hj => ?_)
  walk_at "ss"
  refine u_uput (st := runS g z cap (st0 g) w) (L := 0) (rest := []) ⟨hU24, hl24, hb24, bk, ok21, by decide, by rw [List.length_append, List.length_append, List.length_take, List.length_drop]; show min j 2 + 1 + (2 - j) ≤ 50000; omega, by decide, nbk2⟩ (fun _ => ⟨rfl, .bit, rfl, ?_⟩) (fun h01 => (by
    rcases h01 120 (List.mem_append_left _ (List.mem_append_right _ List.mem_cons_self)) with e | e <;> cases e))
  walk_at "ss"
  refine w_iteN (fun h => (h rfl).elim) (fun _ => ?_)
  walk_at "ss"
  rw [str_nil]
  refine u_uput (st := runS g z cap (st0 g) w) (L := 0) (rest := []) (bits := []) ⟨hU24, hl24, hb24, bk, ok21, by decide, by decide, by decide, nbk2⟩ (fun hn => (hn (by decide)).elim) (fun _ R5 hR5 => ?_)
  rw [unp_zero] at hR5
  subst hR5
  refine ⟨fun hr => absurd rfl hr, fun _ H25 p5 s25 hp5 hU25 hl25 ok25 => ?_⟩
  dsimp only at hU25
  obtain ⟨dk25, hku25⟩ := id hU25
  have T25 := tabs_sameP T24 s25 hku24
  have x25 := extN_sameP x24 x11 hk2 s25
  walk_at "ss"
  refine w_ite (fun _ => ?_) (fun h => (h rfl).elim)
  walk_at "ss"
  exact q H25 x25 T25
end
theorem sc_law : FnScope ["_law_script", "_law_signs", "_law_size", "_law_cap", "_law_book", "_law_text", "_law_bits", "_law_odd", "_law_sign", "_law_at", "_law_way", "_law_count", "_law_more", "_law_wrong", "_law_due"] ["_law_script"] (defScope s_law) := ⟨rfl, rfl, rfl, by decide +kernel, rfl, by decide +kernel, by decide +kernel⟩
section
variable {P : Program} {w : World} {K : PySem.W.Frag} {mg : Str → Option Value} {base : Heap} {A : Adr}
theorem str_nl : Str.ofString "\n" = S [10] := by decide +kernel
theorem str_tab : Str.ofString "\t" = S [9] := by decide +kernel
theorem odd_pick {g : List Nat} {z : Nat} {cap : Int} {o k : Nat} (bk : BookOk g z cap) (ho : o ∉ g) (h : k < 4) : ∃ o', ([V.str (S [o]), V.str (S [o]), V.str (Str.ofString "\n"), V.str (Str.ofString "\t")] : List V)[k]? = some (.str (S [o'])) ∧ o' ∉ g := by
  have p10 : 10 ∉ g := fun h => by have := bk.plain _ h; omega
  have p9 : 9 ∉ g := fun h => by have := bk.plain _ h; omega
  rw [str_nl, str_tab]
  match k, h with
  | 0, _ => exact ⟨_, rfl, ho⟩
  | 1, _ => exact ⟨_, rfl, ho⟩
  | 2, _ => exact ⟨_, rfl, p10⟩
  | 3, _ => exact ⟨_, rfl, p9⟩
theorem cutS_last (l : List Nat) : cutS (S l) none (some (-1)) = S l.dropLast := by
  rw [cutS_S, HT.sIx_none, List.drop_zero, Nat.sub_zero, List.dropLast_eq_take]
  congr 2
  show (if (-1 : Int) < 0 then ((-1 : Int) + (l.length : Int)).toNat else min (-1 : Int).toNat l.length) = l.length - 1
  rw [if_pos (by decide)]
  omega
theorem wrong_more : ([V.str (Str.ofString "2"), V.str (Str.ofString " "), V.str (Str.ofString "a"), V.str (Str.ofString "O"), V.str (Str.ofString "l"), V.str (Str.ofString "-"), V.str (S [10]), V.str (Str.ofString "\t")] : List V) = ([50, 32, 97, 79, 108, 45, 10, 9] : List Nat).map fun c => V.str (S [c]) := by decide +kernel
theorem more_odd1 : ∀ c ∈ ([50, 32, 97, 79, 108, 45, 10, 9] : List Nat), c ≠ 48 ∧ c ≠ 49 := by decide
/-- how a reading of the bits ends, and what is due -/
def FinO (o : Out) (D : Str) : Prop := (∃ w', o = .told w' ∧ D = S []) ∨ (o = .loose ∧ D = Str.ofString "looseTrue") ∨ (o = .short ∧ D = Str.ofString "shortTrue")
def LooseC (m n k : Nat) (way : Int) : Prop := (m < n ∧ 1 < k) ∨ (m = n ∧ way = 2)
def DueC (m n k : Nat) (way : Int) (D : Str) : Prop := (D = Str.ofString "looseTrue" ∧ LooseC m n k way ∧ ¬ (n < m ∧ 1 < k)) ∨ (D = S [] ∧ ¬ LooseC m n k way ∧ ¬ (n < m ∧ 1 < k)) ∨ (D = Str.ofString "shortTrue" ∧ n < m ∧ 1 < k)
theorem fin_due {g : List Nat} {z : Nat} {cap : Int} {w : List Nat} {m : Nat} {way : Int} {B0 B : Word} {D1 D : Str} (bk : BookOk g z cap) (iw : ∀ c ∈ w, c ∈ g) (lw : w.length ≤ 12) (hm : m = w.length ∨ m = w.length + 1 ∨ (1 ≤ w.length ∧ m = w.length - 1))
    (d1 : DueC m w.length g.length way D1) (b0 : ((way = 2 ∧ m = w.length) ∧ B0 = packS g z cap (st0 g) w ++ [48]) ∨ (¬ (way = 2 ∧ m = w.length) ∧ B0 = packS g z cap (st0 g) w))
    (l : ((way = 3 ∧ m = w.length ∧ B0 ≠ []) ∧ B = B0.dropLast ∧ D = Str.ofString "shortTrue") ∨ (¬ (way = 3 ∧ m = w.length ∧ B0 ≠ []) ∧ B = B0 ∧ D = D1)) : FinO (unpO g z cap B (.int (m : Int))) D := by
  unfold DueC LooseC at d1
  have one := bk.one
  rcases l with ⟨⟨h3, hmn, hne⟩, rfl, rfl⟩ | ⟨hl, rfl, rfl⟩
  · rcases b0 with ⟨⟨h2, _⟩, _⟩ | ⟨_, rfl⟩
    · omega
    · subst hmn
      exact .inr (.inr ⟨unpO_cut bk iw (by omega) hne, rfl⟩)
  · rcases b0 with ⟨⟨h2, hmn⟩, rfl⟩ | ⟨h2, rfl⟩
    · subst hmn
      rcases d1 with ⟨rfl, _, _⟩ | ⟨_, c1, _⟩ | ⟨_, c2, _⟩
      · exact .inr (.inl ⟨unpO_loose bk iw (by decide) (by decide) (by omega), rfl⟩)
      · exact absurd (Or.inr ⟨rfl, h2⟩) c1
      · exact absurd c2 (Nat.lt_irrefl _)
    · rcases Nat.lt_or_ge g.length 2 with h1 | h1
      · rw [show packS g z cap (st0 g) w = [] from one_pack bk (by omega) w (st0 g) (ones_ok bk) iw]
        obtain ⟨w', e⟩ := unpO_one bk (show g.length = 1 by omega) (m := m) (by omega)
        rcases d1 with ⟨_, c1, _⟩ | ⟨rfl, _, _⟩ | ⟨_, c2, c3⟩
        · omega
        · exact .inl ⟨w', e, rfl⟩
        · omega
      · rcases d1 with ⟨rfl, c1, _⟩ | ⟨rfl, c1, c2⟩ | ⟨rfl, c2, c3⟩
        · obtain ⟨l0, rfl⟩ : 1 ≤ w.length ∧ m = w.length - 1 := by omega
          exact .inr (.inl ⟨unpO_less bk iw h1 (by omega) l0, rfl⟩)
        · obtain rfl : m = w.length := by omega
          exact .inl ⟨w, unpO_told bk iw (by omega), rfl⟩
        · exact .inr (.inr ⟨unpO_short bk iw h1 c2 (by omega), rfl⟩)
def sp_law (K : PySem.W.Frag) (A : Adr) : L2.Sp := fun vs H Q _ => ∃ (a : Addr) (ns : List Int), vs = [.ref a] ∧ SqL K H a (ns.map V.int) ∧ ns.length ≤ 63 ∧ H A.P_law_goes_on = some (.tbl #[]) ∧ H A.P_law = some (.tbl #[]) ∧ ∀ H', Q (.bl true) H'
theorem ok_law (T : Txt K mg A) (TB_law_goes_on : LamX.TabB base mg A.c_law_goes_on A.P_law_goes_on) (TB_law : LamX.TabB base mg A.c_law A.P_law) : FnOk P w K mg base CX0 15 A.f_law A.d_law ["_law_script"] (sp_law K A) := by
  have G_Unpacker_put := ok_Unpacker_put (P := P) (w := w) (base := base) T
  have G_law_book_by := ok_law_book_by (P := P) (w := w) (base := base) T
  have G_law_cell_at := ok_law_cell_at (P := P) (w := w) (base := base) T
  have G_law_count_drawn := ok_law_count_drawn (P := P) (w := w) (base := base) T
  have G_law_count_due := ok_law_count_due (P := P) (w := w) (base := base) T
  have G_law_goes_on := ok_law_goes_on (P := P) (w := w) (base := base) T TB_law_goes_on
  have G_law_signs_by := ok_law_signs_by (P := P) (w := w) (base := base) T
  have G_law_text_by := ok_law_text_by (P := P) (w := w) (base := base) T
  have G_pack := ok_pack (P := P) (w := w) (base := base) T
  have G_unpack := ok_unpack (P := P) (w := w) (base := base) T
  have G_Unpacker_init := ok_Unpacker_init (P := P) (w := w) (base := base) T
  have G_Book_init := ok_Book_init (P := P) (w := w) (base := base) T
  refine T.F_law.okC sc_law (fun vs H Q E h => by first | (obtain ⟨rfl, _⟩ := h; rfl) | (obtain ⟨_, rfl, _⟩ := h; rfl) | (obtain ⟨_, _, rfl, _⟩ := h; rfl) | (obtain ⟨_, _, _, rfl, _⟩ := h; rfl) | (obtain ⟨_, _, _, _, rfl, _⟩ := h; rfl) | (obtain ⟨_, _, _, _, _, rfl, _⟩ := h; rfl) | (obtain ⟨_, _, _, _, _, _, rfl, _⟩ := h; rfl) | (obtain ⟨_, _, _, _, _, _, _, rfl, _⟩ := h; rfl) | (obtain ⟨_, _, _, _, _, _, _, _, rfl, _⟩ := h; rfl) | (obtain ⟨_, _, _, _, _, _, _, _, _, rfl, _⟩ := h; rfl) | (obtain ⟨_, _, _, _, _, _, _, _, _, _, rfl, _⟩ := h; rfl) | (obtain ⟨_, _, _, _, _, _, _, _, _, _, _, rfl, _⟩ := h; rfl) | (obtain ⟨_, _, _, _, _, _, _, _, _, _, _, _, rfl, _⟩ := h; rfl) | (obtain ⟨_, _, _, _, _, _, _, _, _, _, _, _, _, rfl, _⟩ := h; rfl) | (obtain ⟨_, _, _, _, _, _, _, _, _, _, _, _, _, _, rfl, _⟩ := h; rfl) | (obtain ⟨_, _, _, _, _, _, _, _, _, _, _, _, _, _, _, rfl, _⟩ := h; rfl) | (obtain ⟨_, _, _, _, _, _, _, _, _, _, _, _, _, _, _, _, rfl, _⟩ := h; rfl) | (obtain ⟨_, _, _, _, _, _, _, _, _, _, _, _, _, _, _, _, _, rfl, _⟩ := h; rfl) | (obtain ⟨_, _, _, _, _, _, _, _, _, _, _, _, _, _, _, _, _, _, rfl, _⟩ := h; rfl) | (obtain ⟨_, _, _, _, _, _, _, _, _, _, _, _, _, _, _, _, _, _, _, rfl, _⟩ := h; rfl) | (obtain ⟨_, _, _, _, _, _, _, _, _, _, _, _, _, _, _, _, _, _, _, _, rfl, _⟩ := h; rfl) | (obtain ⟨_, _, _, _, _, _, _, _, _, _, _, _, _, _, _, _, _, _, _, _, _, rfl, _⟩ := h; rfl)) (fun cdv Ar outer s H vs Q E hcd hr h => ?_)
  have hcode : cdv = .ref A.c_law := hcd.symm.trans T.cd_law
  have hr_lam := hr.mono (by decide : 11 + 2 ≤ 14)
  obtain ⟨a, ns, rfl, hS, hl63, hP0, hP1, q⟩ := h
  have hr_Unpacker_put := hr.mono (by decide : 9 ≤ 14)
  have hr_law_book_by := hr.mono (by decide : 2 ≤ 14)
  have hr_law_cell_at := hr.mono (by decide : 1 ≤ 14)
  have hr_law_count_drawn := hr.mono (by decide : 1 ≤ 14)
  have hr_law_count_due := hr.mono (by decide : 1 ≤ 14)
  have hr_law_goes_on := hr.mono (by decide : 14 ≤ 14)
  have hr_law_signs_by := hr.mono (by decide : 1 ≤ 14)
  have hr_law_text_by := hr.mono (by decide : 2 ≤ 14)
  have hr_pack := hr.mono (by decide : 10 ≤ 14)
  have hm_Book_init := hr.mono (by decide : 2 + 1 ≤ 14)
  have hm_Unpacker_init := hr.mono (by decide : 8 + 1 ≤ 14)
  have na_Unpacker_left := T.na_Unpacker_left
  have cl_Book := T.cl_Book
  have cl_Unpacker := T.cl_Unpacker
  refine ⟨_, (pss_cons (ps_asg (pe_call G_law_book_by hr_law_book_by rfl T.g_law_book_by T.F_law_book_by.kp T.b_law_book_by .nil pass0 (pa_cons (pv 0) pa_nil)) (pg_tupK (K := K) rfl (pgs_cons (pg_name (i := 1) sc_law.nd rfl (Or.inl rfl)) (pgs_cons (pg_name (i := 2) sc_law.nd rfl (Or.inl rfl)) (pgs_cons (pg_name (i := 3) sc_law.nd rfl (Or.inl rfl)) pgs_nil)))))
      (pss_cons (ps_set (i := 4) sc_law.nd rfl (Or.inr rfl) (pe_make T.mk_Book G_Book_init hm_Book_init rfl T.g_Book T.b_Book_init .nil pass0 (pa_cons (pv 1) (pa_cons (pv 2) (pa_cons (pv 3) pa_nil)))))
      (pss_cons (ps_set (i := 5) sc_law.nd rfl (Or.inr rfl) (pe_call G_law_text_by hr_law_text_by rfl T.g_law_text_by T.F_law_text_by.kp T.b_law_text_by .nil pass0 (pa_cons (pv 0) (pa_cons pe_int (pa_cons (pv 1) (pa_cons (pe_op op_mod (pe_call G_law_cell_at hr_law_cell_at rfl T.g_law_cell_at T.F_law_cell_at.kp T.b_law_cell_at .nil pass0 (pa_cons (pv 0) (pa_cons pe_int pa_nil))) pe_int) pa_nil))))))
      (pss_cons (ps_set (i := 6) sc_law.nd rfl (Or.inr rfl) (pe_call G_pack hr_pack rfl T.g_pack T.F_pack.kp T.b_pack .nil passL (pa_cons (pv 4) (pa_cons (pv 5) pa_nil))))
      (pss_cons (ps_set (i := 7) sc_law.nd rfl (Or.inr rfl) pe_str)
      (pss_cons (ps_for PassesOwn.never rfl (pi_str (pe_call G_law_signs_by hr_law_signs_by rfl T.g_law_signs_by T.F_law_signs_by.kp T.b_law_signs_by .nil pass0 (pa_cons (pe_call G_law_cell_at hr_law_cell_at rfl T.g_law_cell_at T.F_law_cell_at.kp T.b_law_cell_at .nil pass0 (pa_cons (pv 0) (pa_cons pe_int pa_nil))) (pa_cons pe_int pa_nil)))) (pg_name (i := 8) sc_law.nd rfl (Or.inl rfl))
      (pss_one (ps_if (pt_cmpR op_notIn_sign (pv 8) (pv 1) (by rfl)) (pss_one (ps_set (i := 7) sc_law.nd rfl (Or.inr rfl) (pv 8)))
      pss_nil)))
      (pss_cons (ps_set (i := 7) sc_law.nd rfl (Or.inr rfl) (pe_ix (ix_listK (K := K)) (pe_lst (pa_cons (pv 7) (pa_cons (pv 7) (pa_cons pe_str (pa_cons pe_str pa_nil))))) (pe_op op_mod (pe_call G_law_cell_at hr_law_cell_at rfl T.g_law_cell_at T.F_law_cell_at.kp T.b_law_cell_at .nil pass0 (pa_cons (pv 0) (pa_cons pe_int pa_nil))) pe_int) (fun _ _ => rfl)))
      (pss_cons (ps_set (i := 9) sc_law.nd rfl (Or.inr rfl) (pe_op op_mod (pe_call G_law_cell_at hr_law_cell_at rfl T.g_law_cell_at T.F_law_cell_at.kp T.b_law_cell_at .nil pass0 (pa_cons (pv 0) (pa_cons pe_int pa_nil))) (pe_op op_add (pe_callB call_len_str (by rfl) T.n_len PySem.boot_len (pa_cons (pv 6) pa_nil)) pe_int)))
      (pss_cons (ps_set (i := 10) sc_law.nd rfl (Or.inl rfl) (pe_op op_mod (pe_call G_law_cell_at hr_law_cell_at rfl T.g_law_cell_at T.F_law_cell_at.kp T.b_law_cell_at .nil pass0 (pa_cons (pv 0) (pa_cons pe_int pa_nil))) pe_int))
      (pss_cons (ps_if (pt_cmpR op_ne (pe_give (k := 11) T.F_law_told rfl T.g_law_told T.b_law_told sc_law_told rfl (Or.inl rfl) (fun cdv => gives_law_told T (by decide) cdv) hr_lam (pa_cons (pe_lam0 (k := 11) (T := Tall A) TB_law hcode (hm_law A) (hu_law T) ⟨(lamN_by2 (N := ["_law_script", "_law_signs", "_law_size", "_law_cap", "_law_book", "_law_text", "_law_bits", "_law_odd", "_law_sign", "_law_at", "_law_way", "_law_count", "_law_more", "_law_wrong", "_law_due"]) (sc := defScope s_law) (x := none) (by decide +kernel)), fun _ _ _ _ _ => rfl, (fun n e => nomatch e), fun Al ol sl Hl El fl cl hrl => have hr_pack := (hrl.mono (by decide : 10 ≤ 11)); (pe_call G_pack hr_pack rfl T.g_pack T.F_pack.kp T.b_pack .nil passLam (pa_cons (pv 4) (pa_cons (pe_op op_add_str (pe_op op_add_str (pe_slice sl_str (pv 5) po_none (po_some (pv 9))) (pv 7)) (pe_slice sl_str (pv 5) (po_some (pv 9)) po_none)) pa_nil)))⟩) pa_nil)) pe_str (nomark _)) (pss_one (ps_ret pe_bl))
      pss_nil)
      (pss_cons (ps_if (pt_not (pt_val (pe_call G_law_goes_on hr_law_goes_on rfl T.g_law_goes_on T.F_law_goes_on.kp T.b_law_goes_on .nil pass0 (pa_cons (pv 4) (pa_cons (pv 5) (pa_cons (pv 6) (pa_cons (pv 7) (pa_cons (pe_op op_mod (pe_call G_law_cell_at hr_law_cell_at rfl T.g_law_cell_at T.F_law_cell_at.kp T.b_law_cell_at .nil pass0 (pa_cons (pv 0) (pa_cons pe_int pa_nil))) pe_int) pa_nil)))))))) (pss_one (ps_ret pe_bl))
      pss_nil)
      (pss_cons (ps_if (PW.pt (pw_or (pt_cmpR op_ne (pe_fldK (K := K) (pe_make T.mk_Unpacker G_Unpacker_init hm_Unpacker_init rfl T.g_Unpacker T.b_Unpacker_init .nil passL (pa_cons (pv 4) (pa_cons pe_int pa_nil)))) pe_int (nomark _)) (pw_or1 (pt_cmpR op_ne (pe_meth (pe_make T.mk_Unpacker G_Unpacker_init hm_Unpacker_init rfl T.g_Unpacker T.b_Unpacker_init .nil passL (pa_cons (pv 4) (pa_cons pe_int pa_nil))) T.cl_Unpacker T.m_Unpacker_put G_Unpacker_put hr_Unpacker_put T.b_Unpacker_put .nil passL (pa_cons pe_str pa_nil)) pe_str (nomark _))))) (pss_one (ps_ret pe_bl))
      pss_nil)
      (pss_cons (ps_set (i := 11) sc_law.nd rfl (Or.inr rfl) (pe_call G_law_count_drawn hr_law_count_drawn rfl T.g_law_count_drawn T.F_law_count_drawn.kp T.b_law_count_drawn .nil pass0 (pa_cons (pe_call G_law_cell_at hr_law_cell_at rfl T.g_law_cell_at T.F_law_cell_at.kp T.b_law_cell_at .nil pass0 (pa_cons (pv 0) (pa_cons pe_int pa_nil))) (pa_cons (pe_callB call_len_str (by rfl) T.n_len PySem.boot_len (pa_cons (pv 5) pa_nil)) pa_nil))))
      (pss_cons (ps_if (pt_not (pt_val (pe_call G_law_count_due hr_law_count_due rfl T.g_law_count_due T.F_law_count_due.kp T.b_law_count_due .nil pass0 (pa_cons (pv 11) pa_nil)))) (pss_cons (ps_if (pt_cmpR op_ne (pe_give (k := 11) T.F_law_told rfl T.g_law_told T.b_law_told sc_law_told rfl (Or.inl rfl) (fun cdv => gives_law_told T (by decide) cdv) hr_lam (pa_cons (pe_lam1 (k := 11) (T := Tall A) TB_law hcode (hm_law A) (hu_law T) ⟨(lamN_by2 (N := ["_law_script", "_law_signs", "_law_size", "_law_cap", "_law_book", "_law_text", "_law_bits", "_law_odd", "_law_sign", "_law_at", "_law_way", "_law_count", "_law_more", "_law_wrong", "_law_due"]) (sc := defScope s_law) (x := some "_law_one") (by decide +kernel)), (fun e => nomatch e), fun n e dV doc pm cv ctv => by (cases e; exact ⟨_, rfl, fun _ => rfl⟩), fun Al ol sl Hl El fl cl hrl => have hm_Unpacker_init := (hrl.mono (by decide : 8 + 1 ≤ 11)); (pe_make T.mk_Unpacker G_Unpacker_init hm_Unpacker_init rfl T.g_Unpacker T.b_Unpacker_init .nil passLam (pa_cons (pv 4) (pa_cons (pv 11) pa_nil)))⟩) pa_nil)) pe_str (nomark _)) (pss_one (ps_ret pe_bl))
      pss_nil)
      (pss_one (ps_ret (pe_cmpR op_eq (pe_give (k := 11) T.F_law_told rfl T.g_law_told T.b_law_told sc_law_told rfl (Or.inl rfl) (fun cdv => gives_law_told T (by decide) cdv) hr_lam (pa_cons (pe_lam1 (k := 11) (T := Tall A) TB_law hcode (hm_law A) (hu_law T) ⟨(lamN_by2 (N := ["_law_script", "_law_signs", "_law_size", "_law_cap", "_law_book", "_law_text", "_law_bits", "_law_odd", "_law_sign", "_law_at", "_law_way", "_law_count", "_law_more", "_law_wrong", "_law_due"]) (sc := defScope s_law) (x := some "_law_two") (by decide +kernel)), (fun e => nomatch e), fun n e dV doc pm cv ctv => by (cases e; exact ⟨_, rfl, fun _ => rfl⟩), fun Al ol sl Hl El fl cl hrl => have hr_unpack := (hrl.mono (by decide : 10 ≤ 11)); (pe_call G_unpack hr_unpack rfl T.g_unpack T.F_unpack.kp T.b_unpack .nil passLam (pa_cons (pv 4) (pa_cons (pe_op op_add_str (pv 6) pe_str) (pa_cons (pv 11) pa_nil))))⟩) pa_nil)) pe_str (nomark _)))))
      pss_nil)
      (pss_cons (ps_if (pt_cmpR op_eq (pv 10) pe_int (nomark _)) (pss_cons (ps_set (i := 12) sc_law.nd rfl (Or.inl rfl) (pe_ix (ix_listK (K := K)) (pe_lst (pa_cons pe_str (pa_cons pe_str (pa_cons pe_str (pa_cons pe_str (pa_cons pe_str (pa_cons pe_str (pa_cons pe_str (pa_cons pe_str pa_nil))))))))) (pe_op op_mod (pe_call G_law_cell_at hr_law_cell_at rfl T.g_law_cell_at T.F_law_cell_at.kp T.b_law_cell_at .nil pass0 (pa_cons (pv 0) (pa_cons pe_int pa_nil))) pe_int) (fun _ _ => rfl)))
      (pss_cons (ps_set (i := 13) sc_law.nd rfl (Or.inr rfl) (pe_op op_add_str (pe_op op_add_str (pe_slice sl_str (pv 6) po_none (po_some (pv 9))) (pv 12)) (pe_slice sl_str (pv 6) (po_some (pv 9)) po_none)))
      (pss_one (ps_ret (pe_cmpR op_eq (pe_give (k := 11) T.F_law_told rfl T.g_law_told T.b_law_told sc_law_told rfl (Or.inl rfl) (fun cdv => gives_law_told T (by decide) cdv) hr_lam (pa_cons (pe_lam0 (k := 11) (T := Tall A) TB_law hcode (hm_law A) (hu_law T) ⟨(lamN_by2 (N := ["_law_script", "_law_signs", "_law_size", "_law_cap", "_law_book", "_law_text", "_law_bits", "_law_odd", "_law_sign", "_law_at", "_law_way", "_law_count", "_law_more", "_law_wrong", "_law_due"]) (sc := defScope s_law) (x := none) (by decide +kernel)), fun _ _ _ _ _ => rfl, (fun n e => nomatch e), fun Al ol sl Hl El fl cl hrl => have hr_unpack := (hrl.mono (by decide : 10 ≤ 11)); (pe_call G_unpack hr_unpack rfl T.g_unpack T.F_unpack.kp T.b_unpack .nil passLam (pa_cons (pv 4) (pa_cons (pv 13) (pa_cons (pv 11) pa_nil))))⟩) pa_nil)) pe_str (nomark _))))))
      pss_nil)
      (pss_cons (ps_set (i := 14) sc_law.nd rfl (Or.inl rfl) pe_str)
      (pss_cut (ps_if (PW.pt (pw_or (PW.pt (pw_and (pt_cmpR op_lt (pv 11) (pe_callB call_len_str (by rfl) T.n_len PySem.boot_len (pa_cons (pv 5) pa_nil)) (nomark _)) (pw_and1 (pt_cmpR op_gt (pe_callB call_len_str (by rfl) T.n_len PySem.boot_len (pa_cons (pv 1) pa_nil)) pe_int (nomark _))))) (pw_or1 (PW.pt (pw_and (pt_cmpR op_eq (pv 11) (pe_callB call_len_str (by rfl) T.n_len PySem.boot_len (pa_cons (pv 5) pa_nil)) (nomark _)) (pw_and1 (pt_cmpR op_eq (pv 10) pe_int (nomark _)))))))) (pss_one (ps_set (i := 14) sc_law.nd rfl (Or.inl rfl) pe_str))
      pss_nil)
      (pss_cut (ps_if (PW.pt (pw_and (pt_cmpR op_gt (pv 11) (pe_callB call_len_str (by rfl) T.n_len PySem.boot_len (pa_cons (pv 5) pa_nil)) (nomark _)) (pw_and1 (pt_cmpR op_gt (pe_callB call_len_str (by rfl) T.n_len PySem.boot_len (pa_cons (pv 1) pa_nil)) pe_int (nomark _))))) (pss_one (ps_set (i := 14) sc_law.nd rfl (Or.inl rfl) pe_str))
      pss_nil)
      (pss_cut (ps_if (PW.pt (pw_and (pt_cmpR op_eq (pv 10) pe_int (nomark _)) (pw_and1 (pt_cmpR op_eq (pv 11) (pe_callB call_len_str (by rfl) T.n_len PySem.boot_len (pa_cons (pv 5) pa_nil)) (nomark _))))) (pss_one (ps_set (i := 6) sc_law.nd rfl (Or.inr rfl) (pe_op op_add_str (pv 6) pe_str)))
      pss_nil)
      (pss_cut (ps_if (PW.pt (pw_and (pt_cmpR op_eq (pv 10) pe_int (nomark _)) (pw_and (pt_cmpR op_eq (pv 11) (pe_callB call_len_str (by rfl) T.n_len PySem.boot_len (pa_cons (pv 5) pa_nil)) (nomark _)) (pw_and1 (pt_cmpR op_ne (pv 6) pe_str (nomark _)))))) (pss_cons (ps_set (i := 6) sc_law.nd rfl (Or.inr rfl) (pe_slice sl_str (pv 6) po_none (po_some (pe_un un_neg pe_int))))
      (pss_one (ps_set (i := 14) sc_law.nd rfl (Or.inl rfl) pe_str)))
      pss_nil)
      (pss_one (ps_ret (pe_cmpR op_eq (pe_give (k := 11) T.F_law_told rfl T.g_law_told T.b_law_told sc_law_told rfl (Or.inl rfl) (fun cdv => gives_law_told T (by decide) cdv) hr_lam (pa_cons (pe_lam1 (k := 11) (T := Tall A) TB_law hcode (hm_law A) (hu_law T) ⟨(lamN_by2 (N := ["_law_script", "_law_signs", "_law_size", "_law_cap", "_law_book", "_law_text", "_law_bits", "_law_odd", "_law_sign", "_law_at", "_law_way", "_law_count", "_law_more", "_law_wrong", "_law_due"]) (sc := defScope s_law) (x := some "_law_three") (by decide +kernel)), (fun e => nomatch e), fun n e dV doc pm cv ctv => by (cases e; exact ⟨_, rfl, fun _ => rfl⟩), fun Al ol sl Hl El fl cl hrl => have hr_unpack := (hrl.mono (by decide : 10 ≤ 11)); (pe_call G_unpack hr_unpack rfl T.g_unpack T.F_unpack.kp T.b_unpack .nil passLam (pa_cons (pv 4) (pa_cons (pv 6) (pa_cons (pv 11) pa_nil))))⟩) pa_nil)) (pv 14) (nomark _)))))))))))))))))))))))), ?_⟩
  refine w_start (σ' := [some _, none, none, none, none, none, none, none, none, none, none, none, none, none, none]) rfl ?_
  try dsimp only [cxOf, Cx.nox, Cx.wish]
  have T0 := tabs0 hP0 hP1
  walk_at "ss"
  refine u_book_by hS (fun pt H1 g z cap s1 hpt ht bk _ => ?_)
  have few := bk.few
  have one := bk.one
  have hS1 := s1.seq hS
  have T1 := T0.ext s1
  refine w_gTup (SqT.of ht) rfl ?_
  walk_at "ss"
  refine u_Book bk (fun b H3 s3 hb0 hb3 => ?_)
  have hS3 := s3.seq hS1
  have T3 := T1.ext s3
  walk_at "ss"
  refine u_cell_at hS3 (by decide) ?_
  walk_at "ss"
  have m0 := Int.emod_nonneg (cellAt ns 4) (show (13 : Int) ≠ 0 by decide)
  have m1 := Int.emod_lt_of_pos (cellAt ns 4) (show (0 : Int) < 13 by decide)
  obtain ⟨m, hm⟩ := Int.eq_ofNat_of_zero_le m0
  rw [hm]
  refine u_text_by hS3 (by decide) one few (by omega) (fun H4 w s4 lw iw => ?_)
  have hS4 := s4.seq hS3
  have T4 := T3.ext s4
  have hb4 := hb3.same s4
  obtain rfl : w.length = m := lw
  have lw12 : w.length ≤ 12 := by omega
  walk_at "ss"
  refine u_pack hb4 bk iw (by omega) (fun H5 s5 => ?_)
  have hS5 := s5.seq hS4
  have T5 := T4.ext s5
  have hb5 := hb4.same s5
  have pb := packS_bits (st := st0 g) bk (ones_ok bk) iw
  have p01 := pb.1
  have lp : (packS g z cap (st0 g) w).length ≤ 500 := by have := pb.2; omega
  have zw : w.length ≤ sizeLine := Nat.le_trans lw12 (by decide)
  have zp := Nat.le_trans lp (show 500 ≤ sizeLine by decide)
  walk_at "ss"
  refine u_cell_at hS5 (by decide) ?_
  walk_at "ss"
  refine u_signs_by (by decide) (by decide) (fun H6 s6 => ?_)
  have hS6 := s6.seq hS5
  have T6 := T5.ext s6
  have hb6 := hb5.same s6
  walk_at "ss"
  rw [show Str.ofString "\n" = S [10] from str_nl]
  refine for_it walk_S (fun i σ' H' => (∃ (o : Nat) (u : Option V), σ' = [some (.ref a), some (.str (S g)), some (.int (z : Int)), some (.int cap), some (.ref b), some (.str (S w)), some (.str (S (packS g z cap (st0 g) w))), some (.str (S [o])), u, none, none, none, none, none, none] ∧ o ∉ g) ∧ H6 = H') ⟨⟨10, _, rfl, fun h => by have := bk.plain _ h; omega⟩, rfl⟩ (fun _ _ _ _ _ => trivial) (fun i x σ' H' H7 hi p y => ?_) (fun σ' H' p => ?_)
  · obtain ⟨⟨o, u, rfl, ho⟩, rfl⟩ := p
    obtain ⟨rfl, c, hc, rfl⟩ := y
    walk_at "ss"
    rw [in_S]
    refine w_iteN (fun hno => ?_) (fun _ => ?_)
    · walk_at "ss"
      exact ⟨⟨c, _, rfl, hno⟩, rfl⟩
    · walk_at "ss"
      exact ⟨⟨o, _, rfl, ho⟩, rfl⟩
  obtain ⟨⟨o0, u, rfl, ho0⟩, rfl⟩ := p
  walk_at "ss"
  refine w_new (fun pl H7 s7 hpl hl => ?_)
  have hS7 := s7.seq hS6
  have T7 := T6.ext s7
  have hb7 := hb6.same s7
  walk_at "ss"
  refine u_cell_at hS7 (by decide) ?_
  walk_at "ss"
  have k0 := Int.emod_nonneg (cellAt ns 26) (show (4 : Int) ≠ 0 by decide)
  have k1 := Int.emod_lt_of_pos (cellAt ns 26) (show (0 : Int) < 4 by decide)
  obtain ⟨kk, hkk⟩ := Int.eq_ofNat_of_zero_le k0
  obtain ⟨o, hpo, ho⟩ := odd_pick bk ho0 (k := kk) (by omega)
  rw [hkk]
  refine w_ixL (v := .str (S [o])) (SqL.of hl) (atI_nat hpo) ?_
  clear hpl hl hpo k0 k1 hkk
  walk_at "ss"
  refine u_cell_at hS7 (by decide) ?_
  walk_at "ss"
  refine w_lenX zp ?_
  rw [S_len]
  walk_at "ss"
  have a0 := Int.emod_nonneg (cellAt ns 21) (show ((packS g z cap (st0 g) w).length : Int) + 1 ≠ 0 by omega)
  have a1 := Int.emod_lt_of_pos (cellAt ns 21) (show (0 : Int) < ((packS g z cap (st0 g) w).length : Int) + 1 by omega)
  obtain ⟨n, hn⟩ := Int.eq_ofNat_of_zero_le a0
  rw [hn] at a1 ⊢
  clear a0 hn
  walk_at "ss"
  refine u_cell_at hS7 (by decide) ?_
  walk_at "ss"
  generalize cellAt ns 22 % 6 = way
  refine w_lamV T7 (fun f8 H8 e8 T8 l8 => ?_)
  have hS8 := sq_ext hS7 e8
  have hb8 := hb7.ext e8
  walk_at "ss"
  refine w_given l8 ?_
  dsimp only [TTtold]
  walk_at "ss"
  refine w_slS (by rw [S_len]; exact zw) ?_
  rw [cutS_to]
  have lt := List.length_take (i := n) (l := w)
  have ld := List.length_drop (i := n) (l := w)
  walk_at "ss"
  refine w_addX (by rw [List.length_singleton]; exact Nat.le_trans (show _ ≤ 60000 by omega) (by decide)) ?_
  rw [S_cat]
  walk_at "ss"
  refine w_slS (by rw [S_len]; exact zw) ?_
  rw [cutS_from]
  walk_at "ss"
  refine w_addX (by rw [List.length_append, List.length_singleton]; exact Nat.le_trans (show _ ≤ 60000 by omega) (by decide)) ?_
  rw [S_cat]
  walk_at "ss"
  refine u_packX ⟨g, z, cap, hb8, bk, fun h => ho (h o (List.mem_append_left _ (List.mem_append_right _ List.mem_cons_self))), fun H9 s9 => ⟨rfl, .sign, rfl, ?_⟩⟩
  have hS9 := s9.seq hS8
  have T9 := T8.ext s9
  have hb9 := hb8.same s9
  walk_at "ss"
  refine w_iteN (fun h => (h rfl).elim) (fun _ => ?_)
  walk_at "ss"
  refine u_cell_at hS9 (by decide) ?_
  walk_at "ss"
  refine u_goes_on hb9 bk iw lw12 ho T9 (fun H10 x10 T10 => ?_)
  have hS10 := sq_ext hS9 x10
  have hb10 := hb9.ext x10
  walk_at "ss"
  refine u_Unpacker (v := .int 2000) hb10 bk trivial (fun h => absurd h (by decide)) (fun m' hm' lm' k2 p2 H11 s11 hk2 hp2 nkp2 hU hl11 => ?_)
  obtain rfl : m' = 2000 := by
    have := V.int.inj hm'
    omega
  have hS11 := s11.seq hS10
  have T11 := T10.ext s11
  have hb11 := hb10.same s11
  obtain ⟨dku, hku⟩ := id hU
  walk_at "ss"
  refine w_iteNI (fun h => (h rfl).elim) (fun _ => ?_)
  walk_at "ss"
  refine u_Unpacker (v := .int 0) hb11 bk trivial (fun h => absurd h (by decide)) (fun m' hm' lm' k3 p3 H12 s12 hk3 hp3 nkp3 hU2 hl12 => ?_)
  obtain rfl : m' = 0 := by
    have := V.int.inj hm'
    omega
  have hS12 := s12.seq hS11
  have T12 := T11.ext s12
  have hb12 := hb11.same s12
  have nbk3 : b ≠ k3 := let ⟨_, e⟩ := hb11; ne_of_none e hk3
  obtain ⟨dku2, hku2⟩ := id hU2
  walk_at "ss"
  rw [str_nil]
  refine u_uput (st := st0 g) (L := 0) (rest := []) (bits := []) ⟨hU2, hl12, hb12, bk, ones_ok bk, by decide, by decide, by decide, nbk3⟩ (fun hn => (hn (by decide)).elim) (fun _ R5 hR5 => ?_)
  rw [unp_zero] at hR5
  subst hR5
  refine ⟨fun hr => absurd rfl hr, fun _ H13 p5 s13 hp5 hU3 hl13 ok13 => ?_⟩
  dsimp only
  have s1113 := s13.same s12 hk3
  have hS13 := s1113.seq hS11
  have T13 := T11.ext s1113
  have hb13 := hb11.same s1113
  clear hS hS1 hS3 hS4 hS5 hS6 hS7 hS8 hS9 hS10 hS11 hS12 T0 T1 T3 T4 T5 T6 T7 T8 T9 T10 T11 T12 hb3 hb4 hb5 hb6 hb7 hb8 hb9 hb10 hb11 hb12 hU hU2 hU3 hl11 hl12 hl13 l8
  walk_at "ss"
  refine w_iteNX (fun h => (h rfl).elim) (fun _ => ?_)
  walk_at "ss"
  refine u_cell_at hS13 (by decide) ?_
  walk_at "ss"
  refine w_lenX zw ?_
  rw [S_len]
  walk_at "ss"
  refine u_count_drawn (fun H14 v s14 cnt => ?_)
  have hS14 := s14.seq hS13
  have T14 := T13.ext s14
  have hb14 := hb13.same s14
  have hv : ∀ H : Hp, Kd H v := fun H => by
    obtain ⟨h, _⟩ := cnt
    cases v <;> first | trivial | exact h.elim
  walk_at "ss"
  refine u_count_due (hv _) ?_
  cases hw : wholeV v 0 2000 with
  | false =>
    walk_at "ss"
    refine w_lamV T14 (fun f15 H15 e15 T15 l15 => ?_)
    have hS15 := sq_ext hS14 e15
    have hb15 := hb14.ext e15
    walk_at "ss"
    refine w_given l15 ?_
    dsimp only [TTtold]
    walk_at "ss"
    refine u_Unpacker (v := v) hb15 bk (hv _) (fun _ H16 s16 => ⟨rfl, .count, rfl, ?_⟩) (fun m' hm' lm' k4 p4 H16 s16 hk4 hp4 nkp4 hU4 hl16 => by rw [hm', whole_nat lm'] at hw; cases hw)
    have T16 := T15.ext s16
    have hb16 := hb15.same s16
    walk_at "ss"
    refine w_iteN (fun h => (h rfl).elim) (fun _ => ?_)
    walk_at "ss"
    refine w_lamV T16 (fun f17 H17 e17 T17 l17 => ?_)
    have hb17 := hb16.ext e17
    walk_at "ss"
    refine w_given l17 ?_
    dsimp only [TTtold]
    rw [show Str.ofString "x" = S [120] by decide +kernel]
    walk_at "ss"
    refine w_addX (by rw [List.length_singleton]; exact Nat.le_trans (show _ ≤ 501 by omega) (by decide)) ?_
    rw [S_cat]
    walk_at "ss"
    refine u_unpack hb17 bk (by rw [List.length_append, List.length_singleton]; omega) (hv _) ?_
    rw [unpO_count hw]
    intro H18 s18
    refine ⟨rfl, .count, rfl, ?_⟩
    walk_at "ss"
    exact q _
  | true =>
    walk_at "ss"
    obtain ⟨m, rfl, hm⟩ : ∃ m : Nat, v = .int (m : Int) ∧ (m = w.length ∨ m = w.length + 1 ∨ (1 ≤ w.length ∧ m = w.length - 1)) := by
      rcases cnt.2 hw with h | h | ⟨h0, h⟩
      · exact ⟨_, h, .inl rfl⟩
      · exact ⟨_, h, .inr (.inl rfl)⟩
      · exact ⟨_, h, .inr (.inr ⟨h0, rfl⟩)⟩
    refine w_iteI (fun hway => ?_) (fun hway => ?_)
    · walk_at "ss"
      refine w_new (fun pl H15 s15 hpl hl => ?_)
      rw [wrong_more] at hl
      have hS15 := s15.seq hS14
      have T15 := T14.ext s15
      have hb15 := hb14.same s15
      walk_at "ss"
      refine u_cell_at hS15 (by decide) ?_
      walk_at "ss"
      have k0 := Int.emod_nonneg (cellAt ns 24) (show (8 : Int) ≠ 0 by decide)
      have k1 := Int.emod_lt_of_pos (cellAt ns 24) (show (0 : Int) < 8 by decide)
      obtain ⟨kk, hkk⟩ := Int.eq_ofNat_of_zero_le k0
      have hk8 : kk < ([50, 32, 97, 79, 108, 45, 10, 9] : List Nat).length := by show kk < 8; omega
      obtain ⟨d, hd⟩ : ∃ d, ([50, 32, 97, 79, 108, 45, 10, 9] : List Nat)[kk]? = some d := ⟨_, List.getElem?_eq_getElem hk8⟩
      obtain ⟨d1, d2⟩ := more_odd1 d (List.mem_of_getElem? hd)
      rw [hkk]
      refine w_ixL (v := .str (S [d])) (SqL.of hl) (atI_nat (by rw [List.getElem?_map, hd]; rfl)) ?_
      walk_at "ss"
      have lt := List.length_take (i := n) (l := packS g z cap (st0 g) w)
      have ld := List.length_drop (i := n) (l := packS g z cap (st0 g) w)
      refine w_slS (by rw [S_len]; exact zp) ?_
      rw [cutS_to]
      walk_at "ss"
      refine w_addX (by rw [List.length_singleton]; exact Nat.le_trans (show _ ≤ 60000 by omega) (by decide)) ?_
      rw [S_cat]
      walk_at "ss"
      refine w_slS (by rw [S_len]; exact zp) ?_
      rw [cutS_from]
      walk_at "ss"
      refine w_addX (by rw [List.length_append, List.length_singleton]; exact Nat.le_trans (show _ ≤ 60000 by omega) (by decide)) ?_
      rw [S_cat]
      walk_at "ss"
      refine w_lamV T15 (fun f16 H16 e16 T16 l16 => ?_)
      have hb16 := hb15.ext e16
      walk_at "ss"
      refine w_given l16 ?_
      dsimp only [TTtold]
      walk_at "ss"
      refine u_unpack hb16 bk (by rw [List.length_append, List.length_append, List.length_singleton]; omega) trivial ?_
      rw [unpO_bit (by omega) fun h => (h d (List.mem_append_left _ (List.mem_append_right _ List.mem_cons_self))).elim d1 d2]
      intro H18 s18
      refine ⟨rfl, .bit, rfl, ?_⟩
      walk_at "ss"
      exact q _
    · walk_at "ss"
      refine w_cut (fun σ' H' => (∃ D, σ' = [some (.ref a), some (.str (S g)), some (.int (z : Int)), some (.int cap), some (.ref b), some (.str (S w)), some (.str (S (packS g z cap (st0 g) w))), some (.str (S [o])), u, some (.int (n : Int)), some (.int way), some (.int (m : Int)), none, none, some (.str D)] ∧ ((D = Str.ofString "looseTrue" ∧ LooseC m w.length g.length way) ∨ (D = S [] ∧ ¬ LooseC m w.length g.length way))) ∧ H14 = H') ?_ (fun σ' H' p => ?_)
      · walk_at "ss"
        refine w_lenX zw ?_
        rw [S_len]
        walk_at "ss"
        refine w_ite (fun h1 => ?_) (fun h1 => ?_)
        · walk_at "ss"
          refine w_lenX (Nat.le_trans few (by decide)) ?_
          rw [S_len]
          walk_at "ss"
          refine w_ite (fun h2 => ?_) (fun h2 => ?_)
          · walk_at "ss"
            exact ⟨⟨_, rfl, .inl ⟨rfl, .inl ⟨by omega, by omega⟩⟩⟩, rfl⟩
          · walk_at "ss"
            refine w_lenX zw ?_
            rw [S_len]
            walk_at "ss"
            refine w_iteI (fun h3 => absurd h3 (by omega)) (fun h3 => ?_)
            walk_at "ss"
            exact ⟨⟨_, rfl, .inr ⟨rfl, by unfold LooseC; omega⟩⟩, rfl⟩
        · walk_at "ss"
          refine w_lenX zw ?_
          rw [S_len]
          walk_at "ss"
          refine w_iteI (fun h3 => ?_) (fun h3 => ?_)
          · walk_at "ss"
            refine w_iteI (fun h4 => ?_) (fun h4 => ?_)
            · walk_at "ss"
              exact ⟨⟨_, rfl, .inl ⟨rfl, .inr ⟨by omega, h4⟩⟩⟩, rfl⟩
            · walk_at "ss"
              exact ⟨⟨_, rfl, .inr ⟨rfl, by unfold LooseC; omega⟩⟩, rfl⟩
          · walk_at "ss"
            exact ⟨⟨_, rfl, .inr ⟨rfl, by unfold LooseC; omega⟩⟩, rfl⟩
      obtain ⟨⟨D0, rfl, hD0⟩, rfl⟩ := p
      refine w_cut (fun σ' H' => (∃ D, σ' = [some (.ref a), some (.str (S g)), some (.int (z : Int)), some (.int cap), some (.ref b), some (.str (S w)), some (.str (S (packS g z cap (st0 g) w))), some (.str (S [o])), u, some (.int (n : Int)), some (.int way), some (.int (m : Int)), none, none, some (.str D)] ∧ DueC m w.length g.length way D) ∧ H14 = H') ?_ (fun σ' H' p => ?_)
      · have no : ¬ (w.length < m ∧ 1 < g.length) → DueC m w.length g.length way D0 := fun h => by
          rcases hD0 with ⟨e, c⟩ | ⟨e, c⟩
          · exact .inl ⟨e, c, h⟩
          · exact .inr (.inl ⟨e, c, h⟩)
        walk_at "ss"
        refine w_lenX zw ?_
        rw [S_len]
        walk_at "ss"
        refine w_ite (fun h1 => ?_) (fun h1 => ?_)
        · walk_at "ss"
          refine w_lenX (Nat.le_trans few (by decide)) ?_
          rw [S_len]
          walk_at "ss"
          refine w_ite (fun h2 => ?_) (fun h2 => ?_)
          · walk_at "ss"
            exact ⟨⟨_, rfl, .inr (.inr ⟨rfl, by omega, by omega⟩)⟩, rfl⟩
          · walk_at "ss"
            exact ⟨⟨_, rfl, no (by omega)⟩, rfl⟩
        · walk_at "ss"
          exact ⟨⟨_, rfl, no (by omega)⟩, rfl⟩
      clear hD0 D0
      obtain ⟨⟨D1, rfl, hD1⟩, rfl⟩ := p
      refine w_cut (fun σ' H' => (∃ B, σ' = [some (.ref a), some (.str (S g)), some (.int (z : Int)), some (.int cap), some (.ref b), some (.str (S w)), some (.str (S B)), some (.str (S [o])), u, some (.int (n : Int)), some (.int way), some (.int (m : Int)), none, none, some (.str D1)] ∧ (((way = 2 ∧ m = w.length) ∧ B = packS g z cap (st0 g) w ++ [48]) ∨ (¬ (way = 2 ∧ m = w.length) ∧ B = packS g z cap (st0 g) w))) ∧ H14 = H') ?_ (fun σ' H' p => ?_)
      · walk_at "ss"
        refine w_iteI (fun h1 => ?_) (fun h1 => ?_)
        · walk_at "ss"
          refine w_lenX zw ?_
          rw [S_len]
          walk_at "ss"
          refine w_iteI (fun h2 => ?_) (fun h2 => ?_)
          · walk_at "ss"
            rw [show Str.ofString "0" = S [48] from str_0]
            refine w_addX (by rw [List.length_singleton]; exact Nat.le_trans (show _ ≤ 501 by omega) (by decide)) ?_
            rw [S_cat]
            walk_at "ss"
            exact ⟨⟨_, rfl, .inl ⟨⟨h1, by omega⟩, rfl⟩⟩, rfl⟩
          · walk_at "ss"
            exact ⟨⟨_, rfl, .inr ⟨by omega, rfl⟩⟩, rfl⟩
        · walk_at "ss"
          exact ⟨⟨_, rfl, .inr ⟨by omega, rfl⟩⟩, rfl⟩
      obtain ⟨⟨B0, rfl, hB0⟩, rfl⟩ := p
      have lB0 : B0.length ≤ 501 := by
        rcases hB0 with ⟨_, rfl⟩ | ⟨_, rfl⟩
        · rw [List.length_append, List.length_singleton]; omega
        · omega
      refine w_cut (fun σ' H' => (∃ B D, σ' = [some (.ref a), some (.str (S g)), some (.int (z : Int)), some (.int cap), some (.ref b), some (.str (S w)), some (.str (S B)), some (.str (S [o])), u, some (.int (n : Int)), some (.int way), some (.int (m : Int)), none, none, some (.str D)] ∧ B.length ≤ 501 ∧ (((way = 3 ∧ m = w.length ∧ B0 ≠ []) ∧ B = B0.dropLast ∧ D = Str.ofString "shortTrue") ∨ (¬ (way = 3 ∧ m = w.length ∧ B0 ≠ []) ∧ B = B0 ∧ D = D1))) ∧ H14 = H') ?_ (fun σ' H' p => ?_)
      · walk_at "ss"
        refine w_iteI (fun h1 => ?_) (fun h1 => ?_)
        · walk_at "ss"
          refine w_lenX zw ?_
          rw [S_len]
          walk_at "ss"
          refine w_iteI (fun h2 => ?_) (fun h2 => ?_)
          · walk_at "ss"
            refine w_iteNX (fun h3 => ?_) (fun h3 => ?_)
            · walk_at "ss"
              refine w_slS (by rw [S_len]; exact Nat.le_trans lB0 (by decide)) ?_
              rw [cutS_last]
              walk_at "ss"
              exact ⟨⟨_, _, rfl, by rw [List.length_dropLast]; omega, .inl ⟨⟨h1, by omega, h3⟩, rfl, rfl⟩⟩, rfl⟩
            · walk_at "ss"
              exact ⟨⟨_, _, rfl, lB0, .inr ⟨fun h => h.2.2 h3, rfl, rfl⟩⟩, rfl⟩
          · walk_at "ss"
            exact ⟨⟨_, _, rfl, lB0, .inr ⟨fun h => by omega, rfl, rfl⟩⟩, rfl⟩
        · walk_at "ss"
          exact ⟨⟨_, _, rfl, lB0, .inr ⟨fun h => by omega, rfl, rfl⟩⟩, rfl⟩
      obtain ⟨⟨B, D, rfl, lB, hBD⟩, rfl⟩ := p
      have fin := fin_due bk iw lw12 hm hD1 hB0 hBD
      clear hD1 hB0 hBD lB0
      walk_at "ss"
      refine w_lamV T14 (fun f16 H16 e16 T16 l16 => ?_)
      have hb16 := hb14.ext e16
      walk_at "ss"
      refine w_given l16 ?_
      dsimp only [TTtold]
      walk_at "ss"
      refine u_unpack hb16 bk (by omega) trivial ?_
      rcases fin with ⟨w', e, rfl⟩ | ⟨e, rfl⟩ | ⟨e, rfl⟩
      · rw [e]
        intro H18 s18
        dsimp only
        walk_at "ss"
        rw [show decide (V.str "" = V.str (S [])) = true from decide_eq_true (congrArg V.str str_nil)]
        exact q _
      · rw [e]
        intro H18 s18
        refine ⟨rfl, .loose, rfl, ?_⟩
        walk_at "ss"
        exact q _
      · rw [e]
        intro H18 s18
        refine ⟨rfl, .short, rfl, ?_⟩
        walk_at "ss"
        exact q _
end
/-! ## The end -/
def sp_lawEnd (K : PySem.W.Frag) : L2.Sp := fun vs H Q _ => ∃ (a : Addr) (ns : List Int), vs = [.ref a] ∧ SqL K H a (ns.map V.int) ∧ ns.length ≤ 63 ∧ ∀ H', Q (.bl true) H'
theorem all_mk {l : PySem.W.OpenLaw} {w : World} {K : PySem.W.Frag} {h : Heap} {mg : Str → Option Value} {fa : Addr} (X : K.In h) (G : h.Ns mainGlobals mg) (hfa : mg "law" = some (.ref fa))
    {C_Book : Addr} (g_Book : PySem.W.nsIn K mainGlobals "Book" = some (some (.ref C_Book)))
    (pg_Book : PySem.W.plainGet K C_Book Str.empty = true) (hd_Book : PySem.W.hasDictIn K C_Book = true) (po_Book : PySem.W.plainOver K C_Book = true) (sa_Book : PySem.W.findIn K (.ref C_Book) "__setattr__" = some (some (.builtin "object.__setattr__")))
    (mk_Book : PySem.W.makesIn K C_Book = true) (kc_Book : PySem.W.keepIn K (.ref C_Book) = true)
    (na_Book_cap : PySem.W.findIn K (.ref C_Book) "cap" = some none)
    (na_Book_signs : PySem.W.findIn K (.ref C_Book) "signs" = some none)
    (na_Book_size : PySem.W.findIn K (.ref C_Book) "size" = some none)
    {C_Learner : Addr} (g_Learner : PySem.W.nsIn K mainGlobals "Learner" = some (some (.ref C_Learner)))
    (pg_Learner : PySem.W.plainGet K C_Learner Str.empty = true) (hd_Learner : PySem.W.hasDictIn K C_Learner = true) (po_Learner : PySem.W.plainOver K C_Learner = true) (sa_Learner : PySem.W.findIn K (.ref C_Learner) "__setattr__" = some (some (.builtin "object.__setattr__")))
    (mk_Learner : PySem.W.makesIn K C_Learner = true) (kc_Learner : PySem.W.keepIn K (.ref C_Learner) = true)
    (na_Learner_book : PySem.W.findIn K (.ref C_Learner) "book" = some none)
    (na_Learner_shares : PySem.W.findIn K (.ref C_Learner) "shares" = some none)
    (na_Learner_waits : PySem.W.findIn K (.ref C_Learner) "waits" = some none)
    (na_Learner_words : PySem.W.findIn K (.ref C_Learner) "words" = some none)
    {C_Packer : Addr} (g_Packer : PySem.W.nsIn K mainGlobals "Packer" = some (some (.ref C_Packer)))
    (pg_Packer : PySem.W.plainGet K C_Packer Str.empty = true) (hd_Packer : PySem.W.hasDictIn K C_Packer = true) (po_Packer : PySem.W.plainOver K C_Packer = true) (sa_Packer : PySem.W.findIn K (.ref C_Packer) "__setattr__" = some (some (.builtin "object.__setattr__")))
    (mk_Packer : PySem.W.makesIn K C_Packer = true) (kc_Packer : PySem.W.keepIn K (.ref C_Packer) = true)
    (na_Packer_book : PySem.W.findIn K (.ref C_Packer) "book" = some none)
    (na_Packer_learner : PySem.W.findIn K (.ref C_Packer) "learner" = some none)
    {C_Unpacker : Addr} (g_Unpacker : PySem.W.nsIn K mainGlobals "Unpacker" = some (some (.ref C_Unpacker)))
    (pg_Unpacker : PySem.W.plainGet K C_Unpacker Str.empty = true) (hd_Unpacker : PySem.W.hasDictIn K C_Unpacker = true) (po_Unpacker : PySem.W.plainOver K C_Unpacker = true) (sa_Unpacker : PySem.W.findIn K (.ref C_Unpacker) "__setattr__" = some (some (.builtin "object.__setattr__")))
    (mk_Unpacker : PySem.W.makesIn K C_Unpacker = true) (kc_Unpacker : PySem.W.keepIn K (.ref C_Unpacker) = true)
    (na_Unpacker_book : PySem.W.findIn K (.ref C_Unpacker) "book" = some none)
    (na_Unpacker_learner : PySem.W.findIn K (.ref C_Unpacker) "learner" = some none)
    (na_Unpacker_left : PySem.W.findIn K (.ref C_Unpacker) "left" = some none)
    (na_Unpacker_rest : PySem.W.findIn K (.ref C_Unpacker) "rest" = some none)
    {C_BadBit : Addr} (g_BadBit : PySem.W.nsIn K mainGlobals "BadBit" = some (some (.ref C_BadBit))) (xx_BadBit : PySem.W.excIn K C_BadBit [.type "ValueError", .type "Exception", .type "BaseException", .type "object"] "ValueError.__new__" = true)
    (xk_BadBit : PySem.W.keepIn K (.ref C_BadBit) = true) (xb_BadBit : PySem.W.subIn K (.ref C_BadBit) (.type "BaseException") = some true) (xt_BadBit : PySem.W.typeIn K (.ref C_BadBit) = some (.type "type")) (xi_BadBit : PySem.W.isClsIn K C_BadBit = true) (xv_BadBit : PySem.W.subIn K (.ref C_BadBit) (.type "ValueError") = some true)
    (xg_BadBit : PySem.W.findIn K (.ref C_BadBit) "__getattribute__" = some (some (.builtin "BaseException.__getattribute__"))) (xh_BadBit : PySem.W.findIn K (.ref C_BadBit) "__getattr__" = some none) (xd_BadBit : PySem.W.hasDictIn K C_BadBit = true) (xa_BadBit : PySem.W.findIn K (.ref C_BadBit) "__class__" = some (some (.builtin "object.__class__"))) (xm_BadBit : PySem.W.mroIn K C_BadBit (.type "object") = some true)
    {C_BadBook : Addr} (g_BadBook : PySem.W.nsIn K mainGlobals "BadBook" = some (some (.ref C_BadBook))) (xx_BadBook : PySem.W.excIn K C_BadBook [.type "ValueError", .type "Exception", .type "BaseException", .type "object"] "ValueError.__new__" = true)
    (xk_BadBook : PySem.W.keepIn K (.ref C_BadBook) = true) (xb_BadBook : PySem.W.subIn K (.ref C_BadBook) (.type "BaseException") = some true) (xt_BadBook : PySem.W.typeIn K (.ref C_BadBook) = some (.type "type")) (xi_BadBook : PySem.W.isClsIn K C_BadBook = true) (xv_BadBook : PySem.W.subIn K (.ref C_BadBook) (.type "ValueError") = some true)
    (xg_BadBook : PySem.W.findIn K (.ref C_BadBook) "__getattribute__" = some (some (.builtin "BaseException.__getattribute__"))) (xh_BadBook : PySem.W.findIn K (.ref C_BadBook) "__getattr__" = some none) (xd_BadBook : PySem.W.hasDictIn K C_BadBook = true) (xa_BadBook : PySem.W.findIn K (.ref C_BadBook) "__class__" = some (some (.builtin "object.__class__"))) (xm_BadBook : PySem.W.mroIn K C_BadBook (.type "object") = some true)
    {C_BadCount : Addr} (g_BadCount : PySem.W.nsIn K mainGlobals "BadCount" = some (some (.ref C_BadCount))) (xx_BadCount : PySem.W.excIn K C_BadCount [.type "ValueError", .type "Exception", .type "BaseException", .type "object"] "ValueError.__new__" = true)
    (xk_BadCount : PySem.W.keepIn K (.ref C_BadCount) = true) (xb_BadCount : PySem.W.subIn K (.ref C_BadCount) (.type "BaseException") = some true) (xt_BadCount : PySem.W.typeIn K (.ref C_BadCount) = some (.type "type")) (xi_BadCount : PySem.W.isClsIn K C_BadCount = true) (xv_BadCount : PySem.W.subIn K (.ref C_BadCount) (.type "ValueError") = some true)
    (xg_BadCount : PySem.W.findIn K (.ref C_BadCount) "__getattribute__" = some (some (.builtin "BaseException.__getattribute__"))) (xh_BadCount : PySem.W.findIn K (.ref C_BadCount) "__getattr__" = some none) (xd_BadCount : PySem.W.hasDictIn K C_BadCount = true) (xa_BadCount : PySem.W.findIn K (.ref C_BadCount) "__class__" = some (some (.builtin "object.__class__"))) (xm_BadCount : PySem.W.mroIn K C_BadCount (.type "object") = some true)
    {C_BadLine : Addr} (g_BadLine : PySem.W.nsIn K mainGlobals "BadLine" = some (some (.ref C_BadLine))) (xx_BadLine : PySem.W.excIn K C_BadLine [.type "ValueError", .type "Exception", .type "BaseException", .type "object"] "ValueError.__new__" = true)
    (xk_BadLine : PySem.W.keepIn K (.ref C_BadLine) = true) (xb_BadLine : PySem.W.subIn K (.ref C_BadLine) (.type "BaseException") = some true) (xt_BadLine : PySem.W.typeIn K (.ref C_BadLine) = some (.type "type")) (xi_BadLine : PySem.W.isClsIn K C_BadLine = true) (xv_BadLine : PySem.W.subIn K (.ref C_BadLine) (.type "ValueError") = some true)
    (xg_BadLine : PySem.W.findIn K (.ref C_BadLine) "__getattribute__" = some (some (.builtin "BaseException.__getattribute__"))) (xh_BadLine : PySem.W.findIn K (.ref C_BadLine) "__getattr__" = some none) (xd_BadLine : PySem.W.hasDictIn K C_BadLine = true) (xa_BadLine : PySem.W.findIn K (.ref C_BadLine) "__class__" = some (some (.builtin "object.__class__"))) (xm_BadLine : PySem.W.mroIn K C_BadLine (.type "object") = some true)
    {C_BadShares : Addr} (g_BadShares : PySem.W.nsIn K mainGlobals "BadShares" = some (some (.ref C_BadShares))) (xx_BadShares : PySem.W.excIn K C_BadShares [.type "ValueError", .type "Exception", .type "BaseException", .type "object"] "ValueError.__new__" = true)
    (xk_BadShares : PySem.W.keepIn K (.ref C_BadShares) = true) (xb_BadShares : PySem.W.subIn K (.ref C_BadShares) (.type "BaseException") = some true) (xt_BadShares : PySem.W.typeIn K (.ref C_BadShares) = some (.type "type")) (xi_BadShares : PySem.W.isClsIn K C_BadShares = true) (xv_BadShares : PySem.W.subIn K (.ref C_BadShares) (.type "ValueError") = some true)
    (xg_BadShares : PySem.W.findIn K (.ref C_BadShares) "__getattribute__" = some (some (.builtin "BaseException.__getattribute__"))) (xh_BadShares : PySem.W.findIn K (.ref C_BadShares) "__getattr__" = some none) (xd_BadShares : PySem.W.hasDictIn K C_BadShares = true) (xa_BadShares : PySem.W.findIn K (.ref C_BadShares) "__class__" = some (some (.builtin "object.__class__"))) (xm_BadShares : PySem.W.mroIn K C_BadShares (.type "object") = some true)
    {C_BadSign : Addr} (g_BadSign : PySem.W.nsIn K mainGlobals "BadSign" = some (some (.ref C_BadSign))) (xx_BadSign : PySem.W.excIn K C_BadSign [.type "ValueError", .type "Exception", .type "BaseException", .type "object"] "ValueError.__new__" = true)
    (xk_BadSign : PySem.W.keepIn K (.ref C_BadSign) = true) (xb_BadSign : PySem.W.subIn K (.ref C_BadSign) (.type "BaseException") = some true) (xt_BadSign : PySem.W.typeIn K (.ref C_BadSign) = some (.type "type")) (xi_BadSign : PySem.W.isClsIn K C_BadSign = true) (xv_BadSign : PySem.W.subIn K (.ref C_BadSign) (.type "ValueError") = some true)
    (xg_BadSign : PySem.W.findIn K (.ref C_BadSign) "__getattribute__" = some (some (.builtin "BaseException.__getattribute__"))) (xh_BadSign : PySem.W.findIn K (.ref C_BadSign) "__getattr__" = some none) (xd_BadSign : PySem.W.hasDictIn K C_BadSign = true) (xa_BadSign : PySem.W.findIn K (.ref C_BadSign) "__class__" = some (some (.builtin "object.__class__"))) (xm_BadSign : PySem.W.mroIn K C_BadSign (.type "object") = some true)
    {C_Loose : Addr} (g_Loose : PySem.W.nsIn K mainGlobals "Loose" = some (some (.ref C_Loose))) (xx_Loose : PySem.W.excIn K C_Loose [.type "ValueError", .type "Exception", .type "BaseException", .type "object"] "ValueError.__new__" = true)
    (xk_Loose : PySem.W.keepIn K (.ref C_Loose) = true) (xb_Loose : PySem.W.subIn K (.ref C_Loose) (.type "BaseException") = some true) (xt_Loose : PySem.W.typeIn K (.ref C_Loose) = some (.type "type")) (xi_Loose : PySem.W.isClsIn K C_Loose = true) (xv_Loose : PySem.W.subIn K (.ref C_Loose) (.type "ValueError") = some true)
    (xg_Loose : PySem.W.findIn K (.ref C_Loose) "__getattribute__" = some (some (.builtin "BaseException.__getattribute__"))) (xh_Loose : PySem.W.findIn K (.ref C_Loose) "__getattr__" = some none) (xd_Loose : PySem.W.hasDictIn K C_Loose = true) (xa_Loose : PySem.W.findIn K (.ref C_Loose) "__class__" = some (some (.builtin "object.__class__"))) (xm_Loose : PySem.W.mroIn K C_Loose (.type "object") = some true)
    {C_PackError : Addr} (g_PackError : PySem.W.nsIn K mainGlobals "PackError" = some (some (.ref C_PackError))) (xx_PackError : PySem.W.excIn K C_PackError [.type "ValueError", .type "Exception", .type "BaseException", .type "object"] "ValueError.__new__" = true)
    (xk_PackError : PySem.W.keepIn K (.ref C_PackError) = true) (xb_PackError : PySem.W.subIn K (.ref C_PackError) (.type "BaseException") = some true) (xt_PackError : PySem.W.typeIn K (.ref C_PackError) = some (.type "type")) (xi_PackError : PySem.W.isClsIn K C_PackError = true) (xv_PackError : PySem.W.subIn K (.ref C_PackError) (.type "ValueError") = some true)
    (xg_PackError : PySem.W.findIn K (.ref C_PackError) "__getattribute__" = some (some (.builtin "BaseException.__getattribute__"))) (xh_PackError : PySem.W.findIn K (.ref C_PackError) "__getattr__" = some none) (xd_PackError : PySem.W.hasDictIn K C_PackError = true) (xa_PackError : PySem.W.findIn K (.ref C_PackError) "__class__" = some (some (.builtin "object.__class__"))) (xm_PackError : PySem.W.mroIn K C_PackError (.type "object") = some true)
    {C_Short : Addr} (g_Short : PySem.W.nsIn K mainGlobals "Short" = some (some (.ref C_Short))) (xx_Short : PySem.W.excIn K C_Short [.type "ValueError", .type "Exception", .type "BaseException", .type "object"] "ValueError.__new__" = true)
    (xk_Short : PySem.W.keepIn K (.ref C_Short) = true) (xb_Short : PySem.W.subIn K (.ref C_Short) (.type "BaseException") = some true) (xt_Short : PySem.W.typeIn K (.ref C_Short) = some (.type "type")) (xi_Short : PySem.W.isClsIn K C_Short = true) (xv_Short : PySem.W.subIn K (.ref C_Short) (.type "ValueError") = some true)
    (xg_Short : PySem.W.findIn K (.ref C_Short) "__getattribute__" = some (some (.builtin "BaseException.__getattribute__"))) (xh_Short : PySem.W.findIn K (.ref C_Short) "__getattr__" = some none) (xd_Short : PySem.W.hasDictIn K C_Short = true) (xa_Short : PySem.W.findIn K (.ref C_Short) "__class__" = some (some (.builtin "object.__class__"))) (xm_Short : PySem.W.mroIn K C_Short (.type "object") = some true)
    (xn : PySem.W.specialIn K (.builtin "object.__class__") "__get__" = some (some (.builtin "getset_descriptor.__get__"))) (xtk : PySem.W.takesIn K (.builtin "object.__class__") = some true)
    (s_BadBit_BadBit : PySem.W.subIn K (.ref C_BadBit) (.ref C_BadBit) = some true)
    (s_BadBit_BadBook : PySem.W.subIn K (.ref C_BadBit) (.ref C_BadBook) = some false)
    (s_BadBit_BadCount : PySem.W.subIn K (.ref C_BadBit) (.ref C_BadCount) = some false)
    (s_BadBit_BadLine : PySem.W.subIn K (.ref C_BadBit) (.ref C_BadLine) = some false)
    (s_BadBit_BadShares : PySem.W.subIn K (.ref C_BadBit) (.ref C_BadShares) = some false)
    (s_BadBit_BadSign : PySem.W.subIn K (.ref C_BadBit) (.ref C_BadSign) = some false)
    (s_BadBit_Loose : PySem.W.subIn K (.ref C_BadBit) (.ref C_Loose) = some false)
    (s_BadBit_PackError : PySem.W.subIn K (.ref C_BadBit) (.ref C_PackError) = some true)
    (s_BadBit_Short : PySem.W.subIn K (.ref C_BadBit) (.ref C_Short) = some false)
    (s_BadCount_BadBit : PySem.W.subIn K (.ref C_BadCount) (.ref C_BadBit) = some false)
    (s_BadCount_BadBook : PySem.W.subIn K (.ref C_BadCount) (.ref C_BadBook) = some false)
    (s_BadCount_BadCount : PySem.W.subIn K (.ref C_BadCount) (.ref C_BadCount) = some true)
    (s_BadCount_BadLine : PySem.W.subIn K (.ref C_BadCount) (.ref C_BadLine) = some false)
    (s_BadCount_BadShares : PySem.W.subIn K (.ref C_BadCount) (.ref C_BadShares) = some false)
    (s_BadCount_BadSign : PySem.W.subIn K (.ref C_BadCount) (.ref C_BadSign) = some false)
    (s_BadCount_Loose : PySem.W.subIn K (.ref C_BadCount) (.ref C_Loose) = some false)
    (s_BadCount_PackError : PySem.W.subIn K (.ref C_BadCount) (.ref C_PackError) = some true)
    (s_BadCount_Short : PySem.W.subIn K (.ref C_BadCount) (.ref C_Short) = some false)
    (s_BadSign_BadBit : PySem.W.subIn K (.ref C_BadSign) (.ref C_BadBit) = some false)
    (s_BadSign_BadBook : PySem.W.subIn K (.ref C_BadSign) (.ref C_BadBook) = some false)
    (s_BadSign_BadCount : PySem.W.subIn K (.ref C_BadSign) (.ref C_BadCount) = some false)
    (s_BadSign_BadLine : PySem.W.subIn K (.ref C_BadSign) (.ref C_BadLine) = some false)
    (s_BadSign_BadShares : PySem.W.subIn K (.ref C_BadSign) (.ref C_BadShares) = some false)
    (s_BadSign_BadSign : PySem.W.subIn K (.ref C_BadSign) (.ref C_BadSign) = some true)
    (s_BadSign_Loose : PySem.W.subIn K (.ref C_BadSign) (.ref C_Loose) = some false)
    (s_BadSign_PackError : PySem.W.subIn K (.ref C_BadSign) (.ref C_PackError) = some true)
    (s_BadSign_Short : PySem.W.subIn K (.ref C_BadSign) (.ref C_Short) = some false)
    (s_Loose_BadBit : PySem.W.subIn K (.ref C_Loose) (.ref C_BadBit) = some false)
    (s_Loose_BadBook : PySem.W.subIn K (.ref C_Loose) (.ref C_BadBook) = some false)
    (s_Loose_BadCount : PySem.W.subIn K (.ref C_Loose) (.ref C_BadCount) = some false)
    (s_Loose_BadLine : PySem.W.subIn K (.ref C_Loose) (.ref C_BadLine) = some false)
    (s_Loose_BadShares : PySem.W.subIn K (.ref C_Loose) (.ref C_BadShares) = some false)
    (s_Loose_BadSign : PySem.W.subIn K (.ref C_Loose) (.ref C_BadSign) = some false)
    (s_Loose_Loose : PySem.W.subIn K (.ref C_Loose) (.ref C_Loose) = some true)
    (s_Loose_PackError : PySem.W.subIn K (.ref C_Loose) (.ref C_PackError) = some true)
    (s_Loose_Short : PySem.W.subIn K (.ref C_Loose) (.ref C_Short) = some false)
    (s_Short_BadBit : PySem.W.subIn K (.ref C_Short) (.ref C_BadBit) = some false)
    (s_Short_BadBook : PySem.W.subIn K (.ref C_Short) (.ref C_BadBook) = some false)
    (s_Short_BadCount : PySem.W.subIn K (.ref C_Short) (.ref C_BadCount) = some false)
    (s_Short_BadLine : PySem.W.subIn K (.ref C_Short) (.ref C_BadLine) = some false)
    (s_Short_BadShares : PySem.W.subIn K (.ref C_Short) (.ref C_BadShares) = some false)
    (s_Short_BadSign : PySem.W.subIn K (.ref C_Short) (.ref C_BadSign) = some false)
    (s_Short_Loose : PySem.W.subIn K (.ref C_Short) (.ref C_Loose) = some false)
    (s_Short_PackError : PySem.W.subIn K (.ref C_Short) (.ref C_PackError) = some true)
    (s_Short_Short : PySem.W.subIn K (.ref C_Short) (.ref C_Short) = some true)
    {oc_whole : Value} {od_whole an_whole : Option Addr} {sl_whole : Array (Option Value)} {kV_whole dc_whole pm_whole cd_whole ct_whole : Value} {f_whole : Addr}
    (a_whole : PySem.W.nsIn K mainGlobals "whole" = some (some (.ref f_whole)))
    (l_whole : K.lookup f_whole = some ⟨oc_whole, od_whole, .func (PySem.W.fnOf "whole" "whole" (defArgs s_whole) (defBody s_whole) (defScope s_whole) .none kV_whole dc_whole pm_whole an_whole cd_whole ct_whole), sl_whole⟩) (c_whole : PySem.W.codeIn K cd_whole "whole" = true) (k_whole : PySem.W.keepIn K (.ref f_whole) = true)
    {oc_whole_row : Value} {od_whole_row an_whole_row : Option Addr} {sl_whole_row : Array (Option Value)} {kV_whole_row dc_whole_row pm_whole_row cd_whole_row ct_whole_row : Value} {f_whole_row : Addr}
    (a_whole_row : PySem.W.nsIn K mainGlobals "whole_row" = some (some (.ref f_whole_row)))
    (l_whole_row : K.lookup f_whole_row = some ⟨oc_whole_row, od_whole_row, .func (PySem.W.fnOf "whole_row" "whole_row" (defArgs s_whole_row) (defBody s_whole_row) (defScope s_whole_row) .none kV_whole_row dc_whole_row pm_whole_row an_whole_row cd_whole_row ct_whole_row), sl_whole_row⟩) (c_whole_row : PySem.W.codeIn K cd_whole_row "whole_row" = true) (k_whole_row : PySem.W.keepIn K (.ref f_whole_row) = true)
    {oc_need_shares : Value} {od_need_shares an_need_shares : Option Addr} {sl_need_shares : Array (Option Value)} {kV_need_shares dc_need_shares pm_need_shares cd_need_shares ct_need_shares : Value} {f_need_shares : Addr}
    (a_need_shares : PySem.W.nsIn K mainGlobals "need_shares" = some (some (.ref f_need_shares)))
    (l_need_shares : K.lookup f_need_shares = some ⟨oc_need_shares, od_need_shares, .func (PySem.W.fnOf "need_shares" "need_shares" (defArgs s_need_shares) (defBody s_need_shares) (defScope s_need_shares) .none kV_need_shares dc_need_shares pm_need_shares an_need_shares cd_need_shares ct_need_shares), sl_need_shares⟩) (c_need_shares : PySem.W.codeIn K cd_need_shares "need_shares" = true) (k_need_shares : PySem.W.keepIn K (.ref f_need_shares) = true)
    {oc_counted : Value} {od_counted an_counted : Option Addr} {sl_counted : Array (Option Value)} {kV_counted dc_counted pm_counted cd_counted ct_counted : Value} {f_counted : Addr}
    (a_counted : PySem.W.nsIn K mainGlobals "counted" = some (some (.ref f_counted)))
    (l_counted : K.lookup f_counted = some ⟨oc_counted, od_counted, .func (PySem.W.fnOf "counted" "counted" (defArgs s_counted) (defBody s_counted) (defScope s_counted) .none kV_counted dc_counted pm_counted an_counted cd_counted ct_counted), sl_counted⟩) (c_counted : PySem.W.codeIn K cd_counted "counted" = true) (k_counted : PySem.W.keepIn K (.ref f_counted) = true)
    {oc_halved : Value} {od_halved an_halved : Option Addr} {sl_halved : Array (Option Value)} {kV_halved dc_halved pm_halved cd_halved ct_halved : Value} {f_halved : Addr}
    (a_halved : PySem.W.nsIn K mainGlobals "halved" = some (some (.ref f_halved)))
    (l_halved : K.lookup f_halved = some ⟨oc_halved, od_halved, .func (PySem.W.fnOf "halved" "halved" (defArgs s_halved) (defBody s_halved) (defScope s_halved) .none kV_halved dc_halved pm_halved an_halved cd_halved ct_halved), sl_halved⟩) (c_halved : PySem.W.codeIn K cd_halved "halved" = true) (k_halved : PySem.W.keepIn K (.ref f_halved) = true)
    {oc_learnt : Value} {od_learnt an_learnt : Option Addr} {sl_learnt : Array (Option Value)} {kV_learnt dc_learnt pm_learnt cd_learnt ct_learnt : Value} {f_learnt : Addr}
    (a_learnt : PySem.W.nsIn K mainGlobals "learnt" = some (some (.ref f_learnt)))
    (l_learnt : K.lookup f_learnt = some ⟨oc_learnt, od_learnt, .func (PySem.W.fnOf "learnt" "learnt" (defArgs s_learnt) (defBody s_learnt) (defScope s_learnt) .none kV_learnt dc_learnt pm_learnt an_learnt cd_learnt ct_learnt), sl_learnt⟩) (c_learnt : PySem.W.codeIn K cd_learnt "learnt" = true) (k_learnt : PySem.W.keepIn K (.ref f_learnt) = true)
    {oc_pairs : Value} {od_pairs an_pairs : Option Addr} {sl_pairs : Array (Option Value)} {kV_pairs dc_pairs pm_pairs cd_pairs ct_pairs : Value} {f_pairs : Addr}
    (a_pairs : PySem.W.nsIn K mainGlobals "pairs" = some (some (.ref f_pairs)))
    (l_pairs : K.lookup f_pairs = some ⟨oc_pairs, od_pairs, .func (PySem.W.fnOf "pairs" "pairs" (defArgs s_pairs) (defBody s_pairs) (defScope s_pairs) .none kV_pairs dc_pairs pm_pairs an_pairs cd_pairs ct_pairs), sl_pairs⟩) (c_pairs : PySem.W.codeIn K cd_pairs "pairs" = true) (k_pairs : PySem.W.keepIn K (.ref f_pairs) = true)
    {oc_codes : Value} {od_codes an_codes : Option Addr} {sl_codes : Array (Option Value)} {kV_codes dc_codes pm_codes cd_codes ct_codes : Value} {f_codes : Addr}
    (a_codes : PySem.W.nsIn K mainGlobals "codes" = some (some (.ref f_codes)))
    (l_codes : K.lookup f_codes = some ⟨oc_codes, od_codes, .func (PySem.W.fnOf "codes" "codes" (defArgs s_codes) (defBody s_codes) (defScope s_codes) .none kV_codes dc_codes pm_codes an_codes cd_codes ct_codes), sl_codes⟩) (c_codes : PySem.W.codeIn K cd_codes "codes" = true) (k_codes : PySem.W.keepIn K (.ref f_codes) = true)
    {oc_need_signs : Value} {od_need_signs an_need_signs : Option Addr} {sl_need_signs : Array (Option Value)} {kV_need_signs dc_need_signs pm_need_signs cd_need_signs ct_need_signs : Value} {f_need_signs : Addr}
    (a_need_signs : PySem.W.nsIn K mainGlobals "need_signs" = some (some (.ref f_need_signs)))
    (l_need_signs : K.lookup f_need_signs = some ⟨oc_need_signs, od_need_signs, .func (PySem.W.fnOf "need_signs" "need_signs" (defArgs s_need_signs) (defBody s_need_signs) (defScope s_need_signs) .none kV_need_signs dc_need_signs pm_need_signs an_need_signs cd_need_signs ct_need_signs), sl_need_signs⟩) (c_need_signs : PySem.W.codeIn K cd_need_signs "need_signs" = true) (k_need_signs : PySem.W.keepIn K (.ref f_need_signs) = true)
    {oc_Learner_init : Value} {od_Learner_init an_Learner_init : Option Addr} {sl_Learner_init : Array (Option Value)} {kV_Learner_init dc_Learner_init pm_Learner_init cd_Learner_init ct_Learner_init : Value} {f_Learner_init : Addr}
    (a_Learner_init : PySem.W.findIn K (.ref C_Learner) "__init__" = some (some (.ref f_Learner_init))) (i_Learner_init : PySem.W.isFn K (.ref f_Learner_init) = true)
    (l_Learner_init : K.lookup f_Learner_init = some ⟨oc_Learner_init, od_Learner_init, .func (PySem.W.fnOf "__init__" "Learner.__init__" (defArgs s_Learner_init) (defBody s_Learner_init) (defScope s_Learner_init) .none kV_Learner_init dc_Learner_init pm_Learner_init an_Learner_init cd_Learner_init ct_Learner_init), sl_Learner_init⟩) (c_Learner_init : PySem.W.codeIn K cd_Learner_init "Learner.__init__" = true) (k_Learner_init : PySem.W.keepIn K (.ref f_Learner_init) = true)
    {oc_Learner_took : Value} {od_Learner_took an_Learner_took : Option Addr} {sl_Learner_took : Array (Option Value)} {kV_Learner_took dc_Learner_took pm_Learner_took cd_Learner_took ct_Learner_took : Value} {f_Learner_took : Addr}
    (a_Learner_took : PySem.W.findIn K (.ref C_Learner) "took" = some (some (.ref f_Learner_took))) (i_Learner_took : PySem.W.isFn K (.ref f_Learner_took) = true)
    (l_Learner_took : K.lookup f_Learner_took = some ⟨oc_Learner_took, od_Learner_took, .func (PySem.W.fnOf "took" "Learner.took" (defArgs s_Learner_took) (defBody s_Learner_took) (defScope s_Learner_took) .none kV_Learner_took dc_Learner_took pm_Learner_took an_Learner_took cd_Learner_took ct_Learner_took), sl_Learner_took⟩) (c_Learner_took : PySem.W.codeIn K cd_Learner_took "Learner.took" = true) (k_Learner_took : PySem.W.keepIn K (.ref f_Learner_took) = true)
    {oc_Learner_copied : Value} {od_Learner_copied an_Learner_copied : Option Addr} {sl_Learner_copied : Array (Option Value)} {kV_Learner_copied dc_Learner_copied pm_Learner_copied cd_Learner_copied ct_Learner_copied : Value} {f_Learner_copied : Addr}
    (a_Learner_copied : PySem.W.findIn K (.ref C_Learner) "copied" = some (some (.ref f_Learner_copied))) (i_Learner_copied : PySem.W.isFn K (.ref f_Learner_copied) = true)
    (l_Learner_copied : K.lookup f_Learner_copied = some ⟨oc_Learner_copied, od_Learner_copied, .func (PySem.W.fnOf "copied" "Learner.copied" (defArgs s_Learner_copied) (defBody s_Learner_copied) (defScope s_Learner_copied) .none kV_Learner_copied dc_Learner_copied pm_Learner_copied an_Learner_copied cd_Learner_copied ct_Learner_copied), sl_Learner_copied⟩) (c_Learner_copied : PySem.W.codeIn K cd_Learner_copied "Learner.copied" = true) (k_Learner_copied : PySem.W.keepIn K (.ref f_Learner_copied) = true)
    {oc_Packer_init : Value} {od_Packer_init an_Packer_init : Option Addr} {sl_Packer_init : Array (Option Value)} {kV_Packer_init dc_Packer_init pm_Packer_init cd_Packer_init ct_Packer_init : Value} {f_Packer_init : Addr}
    (a_Packer_init : PySem.W.findIn K (.ref C_Packer) "__init__" = some (some (.ref f_Packer_init))) (i_Packer_init : PySem.W.isFn K (.ref f_Packer_init) = true)
    (l_Packer_init : K.lookup f_Packer_init = some ⟨oc_Packer_init, od_Packer_init, .func (PySem.W.fnOf "__init__" "Packer.__init__" (defArgs s_Packer_init) (defBody s_Packer_init) (defScope s_Packer_init) .none kV_Packer_init dc_Packer_init pm_Packer_init an_Packer_init cd_Packer_init ct_Packer_init), sl_Packer_init⟩) (c_Packer_init : PySem.W.codeIn K cd_Packer_init "Packer.__init__" = true) (k_Packer_init : PySem.W.keepIn K (.ref f_Packer_init) = true)
    {oc_Packer_put : Value} {od_Packer_put an_Packer_put : Option Addr} {sl_Packer_put : Array (Option Value)} {kV_Packer_put dc_Packer_put pm_Packer_put cd_Packer_put ct_Packer_put : Value} {f_Packer_put : Addr}
    (a_Packer_put : PySem.W.findIn K (.ref C_Packer) "put" = some (some (.ref f_Packer_put))) (i_Packer_put : PySem.W.isFn K (.ref f_Packer_put) = true)
    (l_Packer_put : K.lookup f_Packer_put = some ⟨oc_Packer_put, od_Packer_put, .func (PySem.W.fnOf "put" "Packer.put" (defArgs s_Packer_put) (defBody s_Packer_put) (defScope s_Packer_put) .none kV_Packer_put dc_Packer_put pm_Packer_put an_Packer_put cd_Packer_put ct_Packer_put), sl_Packer_put⟩) (c_Packer_put : PySem.W.codeIn K cd_Packer_put "Packer.put" = true) (k_Packer_put : PySem.W.keepIn K (.ref f_Packer_put) = true)
    {oc_Unpacker_init : Value} {od_Unpacker_init an_Unpacker_init : Option Addr} {sl_Unpacker_init : Array (Option Value)} {kV_Unpacker_init dc_Unpacker_init pm_Unpacker_init cd_Unpacker_init ct_Unpacker_init : Value} {f_Unpacker_init : Addr}
    (a_Unpacker_init : PySem.W.findIn K (.ref C_Unpacker) "__init__" = some (some (.ref f_Unpacker_init))) (i_Unpacker_init : PySem.W.isFn K (.ref f_Unpacker_init) = true)
    (l_Unpacker_init : K.lookup f_Unpacker_init = some ⟨oc_Unpacker_init, od_Unpacker_init, .func (PySem.W.fnOf "__init__" "Unpacker.__init__" (defArgs s_Unpacker_init) (defBody s_Unpacker_init) (defScope s_Unpacker_init) .none kV_Unpacker_init dc_Unpacker_init pm_Unpacker_init an_Unpacker_init cd_Unpacker_init ct_Unpacker_init), sl_Unpacker_init⟩) (c_Unpacker_init : PySem.W.codeIn K cd_Unpacker_init "Unpacker.__init__" = true) (k_Unpacker_init : PySem.W.keepIn K (.ref f_Unpacker_init) = true)
    {oc_Unpacker_put : Value} {od_Unpacker_put an_Unpacker_put : Option Addr} {sl_Unpacker_put : Array (Option Value)} {kV_Unpacker_put dc_Unpacker_put pm_Unpacker_put cd_Unpacker_put ct_Unpacker_put : Value} {f_Unpacker_put : Addr}
    (a_Unpacker_put : PySem.W.findIn K (.ref C_Unpacker) "put" = some (some (.ref f_Unpacker_put))) (i_Unpacker_put : PySem.W.isFn K (.ref f_Unpacker_put) = true)
    (l_Unpacker_put : K.lookup f_Unpacker_put = some ⟨oc_Unpacker_put, od_Unpacker_put, .func (PySem.W.fnOf "put" "Unpacker.put" (defArgs s_Unpacker_put) (defBody s_Unpacker_put) (defScope s_Unpacker_put) .none kV_Unpacker_put dc_Unpacker_put pm_Unpacker_put an_Unpacker_put cd_Unpacker_put ct_Unpacker_put), sl_Unpacker_put⟩) (c_Unpacker_put : PySem.W.codeIn K cd_Unpacker_put "Unpacker.put" = true) (k_Unpacker_put : PySem.W.keepIn K (.ref f_Unpacker_put) = true)
    {oc_pack : Value} {od_pack an_pack : Option Addr} {sl_pack : Array (Option Value)} {kV_pack dc_pack pm_pack cd_pack ct_pack : Value} {f_pack : Addr}
    (a_pack : PySem.W.nsIn K mainGlobals "pack" = some (some (.ref f_pack)))
    (l_pack : K.lookup f_pack = some ⟨oc_pack, od_pack, .func (PySem.W.fnOf "pack" "pack" (defArgs s_pack) (defBody s_pack) (defScope s_pack) .none kV_pack dc_pack pm_pack an_pack cd_pack ct_pack), sl_pack⟩) (c_pack : PySem.W.codeIn K cd_pack "pack" = true) (k_pack : PySem.W.keepIn K (.ref f_pack) = true)
    {oc_unpack : Value} {od_unpack an_unpack : Option Addr} {sl_unpack : Array (Option Value)} {kV_unpack dc_unpack pm_unpack cd_unpack ct_unpack : Value} {f_unpack : Addr}
    (a_unpack : PySem.W.nsIn K mainGlobals "unpack" = some (some (.ref f_unpack)))
    (l_unpack : K.lookup f_unpack = some ⟨oc_unpack, od_unpack, .func (PySem.W.fnOf "unpack" "unpack" (defArgs s_unpack) (defBody s_unpack) (defScope s_unpack) .none kV_unpack dc_unpack pm_unpack an_unpack cd_unpack ct_unpack), sl_unpack⟩) (c_unpack : PySem.W.codeIn K cd_unpack "unpack" = true) (k_unpack : PySem.W.keepIn K (.ref f_unpack) = true)
    {oc_good_signs : Value} {od_good_signs an_good_signs : Option Addr} {sl_good_signs : Array (Option Value)} {kV_good_signs dc_good_signs pm_good_signs cd_good_signs ct_good_signs : Value} {f_good_signs : Addr}
    (a_good_signs : PySem.W.nsIn K mainGlobals "good_signs" = some (some (.ref f_good_signs)))
    (l_good_signs : K.lookup f_good_signs = some ⟨oc_good_signs, od_good_signs, .func (PySem.W.fnOf "good_signs" "good_signs" (defArgs s_good_signs) (defBody s_good_signs) (defScope s_good_signs) .none kV_good_signs dc_good_signs pm_good_signs an_good_signs cd_good_signs ct_good_signs), sl_good_signs⟩) (c_good_signs : PySem.W.codeIn K cd_good_signs "good_signs" = true) (k_good_signs : PySem.W.keepIn K (.ref f_good_signs) = true)
    {oc_Book_init : Value} {od_Book_init an_Book_init : Option Addr} {sl_Book_init : Array (Option Value)} {kV_Book_init dc_Book_init pm_Book_init cd_Book_init ct_Book_init : Value} {f_Book_init : Addr}
    (a_Book_init : PySem.W.findIn K (.ref C_Book) "__init__" = some (some (.ref f_Book_init))) (i_Book_init : PySem.W.isFn K (.ref f_Book_init) = true)
    (l_Book_init : K.lookup f_Book_init = some ⟨oc_Book_init, od_Book_init, .func (PySem.W.fnOf "__init__" "Book.__init__" (defArgs s_Book_init) (defBody s_Book_init) (defScope s_Book_init) .none kV_Book_init dc_Book_init pm_Book_init an_Book_init cd_Book_init ct_Book_init), sl_Book_init⟩) (c_Book_init : PySem.W.codeIn K cd_Book_init "Book.__init__" = true) (k_Book_init : PySem.W.keepIn K (.ref f_Book_init) = true)
    {oc_report : Value} {od_report an_report : Option Addr} {sl_report : Array (Option Value)} {kV_report dc_report pm_report cd_report ct_report : Value} {f_report : Addr}
    (a_report : PySem.W.nsIn K mainGlobals "report" = some (some (.ref f_report)))
    (l_report : K.lookup f_report = some ⟨oc_report, od_report, .func (PySem.W.fnOf "report" "report" (defArgs s_report) (defBody s_report) (defScope s_report) .none kV_report dc_report pm_report an_report cd_report ct_report), sl_report⟩) (c_report : PySem.W.codeIn K cd_report "report" = true) (k_report : PySem.W.keepIn K (.ref f_report) = true)
    {oc_written : Value} {od_written an_written : Option Addr} {sl_written : Array (Option Value)} {kV_written dc_written pm_written cd_written ct_written : Value} {f_written : Addr}
    (a_written : PySem.W.nsIn K mainGlobals "written" = some (some (.ref f_written)))
    (l_written : K.lookup f_written = some ⟨oc_written, od_written, .func (PySem.W.fnOf "written" "written" (defArgs s_written) (defBody s_written) (defScope s_written) .none kV_written dc_written pm_written an_written cd_written ct_written), sl_written⟩) (c_written : PySem.W.codeIn K cd_written "written" = true) (k_written : PySem.W.keepIn K (.ref f_written) = true)
    {oc_law_cell_at : Value} {od_law_cell_at an_law_cell_at : Option Addr} {sl_law_cell_at : Array (Option Value)} {kV_law_cell_at dc_law_cell_at pm_law_cell_at cd_law_cell_at ct_law_cell_at : Value} {f_law_cell_at : Addr}
    (a_law_cell_at : PySem.W.nsIn K mainGlobals "_law_cell_at" = some (some (.ref f_law_cell_at)))
    (l_law_cell_at : K.lookup f_law_cell_at = some ⟨oc_law_cell_at, od_law_cell_at, .func (PySem.W.fnOf "_law_cell_at" "_law_cell_at" (defArgs s_law_cell_at) (defBody s_law_cell_at) (defScope s_law_cell_at) .none kV_law_cell_at dc_law_cell_at pm_law_cell_at an_law_cell_at cd_law_cell_at ct_law_cell_at), sl_law_cell_at⟩) (c_law_cell_at : PySem.W.codeIn K cd_law_cell_at "_law_cell_at" = true) (k_law_cell_at : PySem.W.keepIn K (.ref f_law_cell_at) = true)
    {oc_law_many_by : Value} {od_law_many_by an_law_many_by : Option Addr} {sl_law_many_by : Array (Option Value)} {kV_law_many_by dc_law_many_by pm_law_many_by cd_law_many_by ct_law_many_by : Value} {f_law_many_by : Addr}
    (a_law_many_by : PySem.W.nsIn K mainGlobals "_law_many_by" = some (some (.ref f_law_many_by)))
    (l_law_many_by : K.lookup f_law_many_by = some ⟨oc_law_many_by, od_law_many_by, .func (PySem.W.fnOf "_law_many_by" "_law_many_by" (defArgs s_law_many_by) (defBody s_law_many_by) (defScope s_law_many_by) .none kV_law_many_by dc_law_many_by pm_law_many_by an_law_many_by cd_law_many_by ct_law_many_by), sl_law_many_by⟩) (c_law_many_by : PySem.W.codeIn K cd_law_many_by "_law_many_by" = true) (k_law_many_by : PySem.W.keepIn K (.ref f_law_many_by) = true)
    {oc_law_signs_by : Value} {od_law_signs_by an_law_signs_by : Option Addr} {sl_law_signs_by : Array (Option Value)} {kV_law_signs_by dc_law_signs_by pm_law_signs_by cd_law_signs_by ct_law_signs_by : Value} {f_law_signs_by : Addr}
    (a_law_signs_by : PySem.W.nsIn K mainGlobals "_law_signs_by" = some (some (.ref f_law_signs_by)))
    (l_law_signs_by : K.lookup f_law_signs_by = some ⟨oc_law_signs_by, od_law_signs_by, .func (PySem.W.fnOf "_law_signs_by" "_law_signs_by" (defArgs s_law_signs_by) (defBody s_law_signs_by) (defScope s_law_signs_by) .none kV_law_signs_by dc_law_signs_by pm_law_signs_by an_law_signs_by cd_law_signs_by ct_law_signs_by), sl_law_signs_by⟩) (c_law_signs_by : PySem.W.codeIn K cd_law_signs_by "_law_signs_by" = true) (k_law_signs_by : PySem.W.keepIn K (.ref f_law_signs_by) = true)
    {oc_law_text_by : Value} {od_law_text_by an_law_text_by : Option Addr} {sl_law_text_by : Array (Option Value)} {kV_law_text_by dc_law_text_by pm_law_text_by cd_law_text_by ct_law_text_by : Value} {f_law_text_by : Addr}
    (a_law_text_by : PySem.W.nsIn K mainGlobals "_law_text_by" = some (some (.ref f_law_text_by)))
    (l_law_text_by : K.lookup f_law_text_by = some ⟨oc_law_text_by, od_law_text_by, .func (PySem.W.fnOf "_law_text_by" "_law_text_by" (defArgs s_law_text_by) (defBody s_law_text_by) (defScope s_law_text_by) .none kV_law_text_by dc_law_text_by pm_law_text_by an_law_text_by cd_law_text_by ct_law_text_by), sl_law_text_by⟩) (c_law_text_by : PySem.W.codeIn K cd_law_text_by "_law_text_by" = true) (k_law_text_by : PySem.W.keepIn K (.ref f_law_text_by) = true)
    {oc_law_book_by : Value} {od_law_book_by an_law_book_by : Option Addr} {sl_law_book_by : Array (Option Value)} {kV_law_book_by dc_law_book_by pm_law_book_by cd_law_book_by ct_law_book_by : Value} {f_law_book_by : Addr}
    (a_law_book_by : PySem.W.nsIn K mainGlobals "_law_book_by" = some (some (.ref f_law_book_by)))
    (l_law_book_by : K.lookup f_law_book_by = some ⟨oc_law_book_by, od_law_book_by, .func (PySem.W.fnOf "_law_book_by" "_law_book_by" (defArgs s_law_book_by) (defBody s_law_book_by) (defScope s_law_book_by) .none kV_law_book_by dc_law_book_by pm_law_book_by an_law_book_by cd_law_book_by ct_law_book_by), sl_law_book_by⟩) (c_law_book_by : PySem.W.codeIn K cd_law_book_by "_law_book_by" = true) (k_law_book_by : PySem.W.keepIn K (.ref f_law_book_by) = true)
    {oc_law_kinds : Value} {od_law_kinds an_law_kinds : Option Addr} {sl_law_kinds : Array (Option Value)} {kV_law_kinds dc_law_kinds pm_law_kinds cd_law_kinds ct_law_kinds : Value} {f_law_kinds : Addr}
    (a_law_kinds : PySem.W.nsIn K mainGlobals "_law_kinds" = some (some (.ref f_law_kinds)))
    (l_law_kinds : K.lookup f_law_kinds = some ⟨oc_law_kinds, od_law_kinds, .func (PySem.W.fnOf "_law_kinds" "_law_kinds" (defArgs s_law_kinds) (defBody s_law_kinds) (defScope s_law_kinds) .none kV_law_kinds dc_law_kinds pm_law_kinds an_law_kinds cd_law_kinds ct_law_kinds), sl_law_kinds⟩) (c_law_kinds : PySem.W.codeIn K cd_law_kinds "_law_kinds" = true) (k_law_kinds : PySem.W.keepIn K (.ref f_law_kinds) = true)
    {oc_law_told : Value} {od_law_told an_law_told : Option Addr} {sl_law_told : Array (Option Value)} {kV_law_told dc_law_told pm_law_told cd_law_told ct_law_told : Value} {f_law_told : Addr}
    (a_law_told : PySem.W.nsIn K mainGlobals "_law_told" = some (some (.ref f_law_told)))
    (l_law_told : K.lookup f_law_told = some ⟨oc_law_told, od_law_told, .func (PySem.W.fnOf "_law_told" "_law_told" (defArgs s_law_told) (defBody s_law_told) (defScope s_law_told) .none kV_law_told dc_law_told pm_law_told an_law_told cd_law_told ct_law_told), sl_law_told⟩) (c_law_told : PySem.W.codeIn K cd_law_told "_law_told" = true) (k_law_told : PySem.W.keepIn K (.ref f_law_told) = true)
    {oc_law_count_drawn : Value} {od_law_count_drawn an_law_count_drawn : Option Addr} {sl_law_count_drawn : Array (Option Value)} {kV_law_count_drawn dc_law_count_drawn pm_law_count_drawn cd_law_count_drawn ct_law_count_drawn : Value} {f_law_count_drawn : Addr}
    (a_law_count_drawn : PySem.W.nsIn K mainGlobals "_law_count_drawn" = some (some (.ref f_law_count_drawn)))
    (l_law_count_drawn : K.lookup f_law_count_drawn = some ⟨oc_law_count_drawn, od_law_count_drawn, .func (PySem.W.fnOf "_law_count_drawn" "_law_count_drawn" (defArgs s_law_count_drawn) (defBody s_law_count_drawn) (defScope s_law_count_drawn) .none kV_law_count_drawn dc_law_count_drawn pm_law_count_drawn an_law_count_drawn cd_law_count_drawn ct_law_count_drawn), sl_law_count_drawn⟩) (c_law_count_drawn : PySem.W.codeIn K cd_law_count_drawn "_law_count_drawn" = true) (k_law_count_drawn : PySem.W.keepIn K (.ref f_law_count_drawn) = true)
    {oc_law_count_due : Value} {od_law_count_due an_law_count_due : Option Addr} {sl_law_count_due : Array (Option Value)} {kV_law_count_due dc_law_count_due pm_law_count_due cd_law_count_due ct_law_count_due : Value} {f_law_count_due : Addr}
    (a_law_count_due : PySem.W.nsIn K mainGlobals "_law_count_due" = some (some (.ref f_law_count_due)))
    (l_law_count_due : K.lookup f_law_count_due = some ⟨oc_law_count_due, od_law_count_due, .func (PySem.W.fnOf "_law_count_due" "_law_count_due" (defArgs s_law_count_due) (defBody s_law_count_due) (defScope s_law_count_due) .none kV_law_count_due dc_law_count_due pm_law_count_due an_law_count_due cd_law_count_due ct_law_count_due), sl_law_count_due⟩) (c_law_count_due : PySem.W.codeIn K cd_law_count_due "_law_count_due" = true) (k_law_count_due : PySem.W.keepIn K (.ref f_law_count_due) = true)
    {oc_law_put_in : Value} {od_law_put_in an_law_put_in : Option Addr} {sl_law_put_in : Array (Option Value)} {kV_law_put_in dc_law_put_in pm_law_put_in cd_law_put_in ct_law_put_in : Value} {f_law_put_in : Addr}
    (a_law_put_in : PySem.W.nsIn K mainGlobals "_law_put_in" = some (some (.ref f_law_put_in)))
    (l_law_put_in : K.lookup f_law_put_in = some ⟨oc_law_put_in, od_law_put_in, .func (PySem.W.fnOf "_law_put_in" "_law_put_in" (defArgs s_law_put_in) (defBody s_law_put_in) (defScope s_law_put_in) .none kV_law_put_in dc_law_put_in pm_law_put_in an_law_put_in cd_law_put_in ct_law_put_in), sl_law_put_in⟩) (c_law_put_in : PySem.W.codeIn K cd_law_put_in "_law_put_in" = true) (k_law_put_in : PySem.W.keepIn K (.ref f_law_put_in) = true)
    {oc_law_stands : Value} {od_law_stands an_law_stands : Option Addr} {sl_law_stands : Array (Option Value)} {kV_law_stands dc_law_stands pm_law_stands cd_law_stands ct_law_stands : Value} {f_law_stands : Addr}
    (a_law_stands : PySem.W.nsIn K mainGlobals "_law_stands" = some (some (.ref f_law_stands)))
    (l_law_stands : K.lookup f_law_stands = some ⟨oc_law_stands, od_law_stands, .func (PySem.W.fnOf "_law_stands" "_law_stands" (defArgs s_law_stands) (defBody s_law_stands) (defScope s_law_stands) .none kV_law_stands dc_law_stands pm_law_stands an_law_stands cd_law_stands ct_law_stands), sl_law_stands⟩) (c_law_stands : PySem.W.codeIn K cd_law_stands "_law_stands" = true) (k_law_stands : PySem.W.keepIn K (.ref f_law_stands) = true)
    {oc_law_goes_on : Value} {od_law_goes_on an_law_goes_on : Option Addr} {sl_law_goes_on : Array (Option Value)} {kV_law_goes_on dc_law_goes_on pm_law_goes_on cd_law_goes_on ct_law_goes_on : Value} {f_law_goes_on : Addr}
    (a_law_goes_on : PySem.W.nsIn K mainGlobals "_law_goes_on" = some (some (.ref f_law_goes_on)))
    (l_law_goes_on : K.lookup f_law_goes_on = some ⟨oc_law_goes_on, od_law_goes_on, .func (PySem.W.fnOf "_law_goes_on" "_law_goes_on" (defArgs s_law_goes_on) (defBody s_law_goes_on) (defScope s_law_goes_on) .none kV_law_goes_on dc_law_goes_on pm_law_goes_on an_law_goes_on cd_law_goes_on ct_law_goes_on), sl_law_goes_on⟩) (c_law_goes_on : PySem.W.codeIn K cd_law_goes_on "_law_goes_on" = true) (k_law_goes_on : PySem.W.keepIn K (.ref f_law_goes_on) = true)
    {oc_law : Value} {od_law an_law : Option Addr} {sl_law : Array (Option Value)} {kV_law dc_law pm_law cd_law ct_law : Value} {f_law : Addr}
    (a_law : PySem.W.nsIn K mainGlobals "law" = some (some (.ref f_law)))
    (l_law : K.lookup f_law = some ⟨oc_law, od_law, .func (PySem.W.fnOf "law" "law" (defArgs s_law) (defBody s_law) (defScope s_law) .none kV_law dc_law pm_law an_law cd_law ct_law), sl_law⟩) (c_law : PySem.W.codeIn K cd_law "law" = true) (k_law : PySem.W.keepIn K (.ref f_law) = true)
    {co_law_goes_on P_law_goes_on : Addr} {ec_law_goes_on : Value} {dc2_law_goes_on : Option Addr} {vs_law_goes_on : Array Value} {sc2_law_goes_on : Array (Option Value)} (cc_law_goes_on : cd_law_goes_on = .ref co_law_goes_on) (lc_law_goes_on : K.lookup co_law_goes_on = some ⟨ec_law_goes_on, dc2_law_goes_on, .fields vs_law_goes_on, sc2_law_goes_on⟩) (v11_law_goes_on : vs_law_goes_on[11]? = some (.ref P_law_goes_on))
    (hT_law_goes_on : h.get? P_law_goes_on = some { cls := .none, data := .fields #[] }) (nT_law_goes_on : K.lookup P_law_goes_on = none) (hh_law_goes_on : PySem.W.codeHdIn K co_law_goes_on P_law_goes_on = true)
    {co_law P_law : Addr} {ec_law : Value} {dc2_law : Option Addr} {vs_law : Array Value} {sc2_law : Array (Option Value)} (cc_law : cd_law = .ref co_law) (lc_law : K.lookup co_law = some ⟨ec_law, dc2_law, .fields vs_law, sc2_law⟩) (v11_law : vs_law[11]? = some (.ref P_law))
    (hT_law : h.get? P_law = some { cls := .none, data := .fields #[] }) (nT_law : K.lookup P_law = none) (hh_law : PySem.W.codeHdIn K co_law P_law = true)
    (nP : P_law_goes_on ≠ P_law)
    (n_ValueError : PySem.W.nsIn K mainGlobals "ValueError" = some none)
    (n_bool : PySem.W.nsIn K mainGlobals "bool" = some none)
    (n_enumerate : PySem.W.nsIn K mainGlobals "enumerate" = some none)
    (n_int : PySem.W.nsIn K mainGlobals "int" = some none)
    (n_isinstance : PySem.W.nsIn K mainGlobals "isinstance" = some none)
    (n_len : PySem.W.nsIn K mainGlobals "len" = some none)
    (n_list : PySem.W.nsIn K mainGlobals "list" = some none)
    (n_max : PySem.W.nsIn K mainGlobals "max" = some none)
    (n_ord : PySem.W.nsIn K mainGlobals "ord" = some none)
    (n_range : PySem.W.nsIn K mainGlobals "range" = some none)
    (n_reversed : PySem.W.nsIn K mainGlobals "reversed" = some none)
    (n_sorted : PySem.W.nsIn K mainGlobals "sorted" = some none)
    (n_str : PySem.W.nsIn K mainGlobals "str" = some none)
    (n_sum : PySem.W.nsIn K mainGlobals "sum" = some none)
    (n_zip : PySem.W.nsIn K mainGlobals "zip" = some none)
    {t_MOST_CAP : Tok} (c_MOST_CAP : PySem.W.nsIn K mainGlobals "MOST_CAP" = some (some (.int 1000000 t_MOST_CAP)))
    {t_MOST_SHARE : Tok} (c_MOST_SHARE : PySem.W.nsIn K mainGlobals "MOST_SHARE" = some (some (.int 1000000000000 t_MOST_SHARE)))
    {t_MOST_SIGNS : Tok} (c_MOST_SIGNS : PySem.W.nsIn K mainGlobals "MOST_SIGNS" = some (some (.int 40 t_MOST_SIGNS)))
    {t_MOST_SIZE : Tok} (c_MOST_SIZE : PySem.W.nsIn K mainGlobals "MOST_SIZE" = some (some (.int 99 t_MOST_SIZE)))
    {t_MOST_TEXT : Tok} (c_MOST_TEXT : PySem.W.nsIn K mainGlobals "MOST_TEXT" = some (some (.int 2000 t_MOST_TEXT))) :
    LamX.LawAtS l w K CX0 15 63 "_law_script" mg fa h := by
  have e := hfa.symm.trans (PySem.W.mg_of X G a_law)
  cases e
  have F_whole := fun_mk (st := s_whole) l_whole c_whole k_whole
  have b_whole := F_whole.binds (ps := ["found", "least", "most"]) fun _ _ _ _ _ _ us hl => match us, hl with | [_, _, _], _ => rfl
  have F_whole_row := fun_mk (st := s_whole_row) l_whole_row c_whole_row k_whole_row
  have b_whole_row := F_whole_row.binds (ps := ["row", "least"]) fun _ _ _ _ _ _ us hl => match us, hl with | [_, _], _ => rfl
  have F_need_shares := fun_mk (st := s_need_shares) l_need_shares c_need_shares k_need_shares
  have b_need_shares := F_need_shares.binds (ps := ["shares"]) fun _ _ _ _ _ _ us hl => match us, hl with | [_], _ => rfl
  have F_counted := fun_mk (st := s_counted) l_counted c_counted k_counted
  have b_counted := F_counted.binds (ps := ["signs", "block"]) fun _ _ _ _ _ _ us hl => match us, hl with | [_, _], _ => rfl
  have F_halved := fun_mk (st := s_halved) l_halved c_halved k_halved
  have b_halved := F_halved.binds (ps := ["shares"]) fun _ _ _ _ _ _ us hl => match us, hl with | [_], _ => rfl
  have F_learnt := fun_mk (st := s_learnt) l_learnt c_learnt k_learnt
  have b_learnt := F_learnt.binds (ps := ["shares", "counts", "cap"]) fun _ _ _ _ _ _ us hl => match us, hl with | [_, _, _], _ => rfl
  have F_pairs := fun_mk (st := s_pairs) l_pairs c_pairs k_pairs
  have b_pairs := F_pairs.binds (ps := ["shares"]) fun _ _ _ _ _ _ us hl => match us, hl with | [_], _ => rfl
  have F_codes := fun_mk (st := s_codes) l_codes c_codes k_codes
  have b_codes := F_codes.binds (ps := ["shares"]) fun _ _ _ _ _ _ us hl => match us, hl with | [_], _ => rfl
  have F_need_signs := fun_mk (st := s_need_signs) l_need_signs c_need_signs k_need_signs
  have b_need_signs := F_need_signs.binds (ps := ["book", "text"]) fun _ _ _ _ _ _ us hl => match us, hl with | [_, _], _ => rfl
  have F_Learner_init := fun_mk (st := s_Learner_init) l_Learner_init c_Learner_init k_Learner_init
  have b_Learner_init := F_Learner_init.binds (ps := ["self", "book"]) fun _ _ _ _ _ _ us hl => match us, hl with | [_, _], _ => rfl
  have F_Learner_took := fun_mk (st := s_Learner_took) l_Learner_took c_Learner_took k_Learner_took
  have b_Learner_took := F_Learner_took.binds (ps := ["self", "sign"]) fun _ _ _ _ _ _ us hl => match us, hl with | [_, _], _ => rfl
  have F_Learner_copied := fun_mk (st := s_Learner_copied) l_Learner_copied c_Learner_copied k_Learner_copied
  have b_Learner_copied := F_Learner_copied.binds (ps := ["self"]) fun _ _ _ _ _ _ us hl => match us, hl with | [_], _ => rfl
  have F_Packer_init := fun_mk (st := s_Packer_init) l_Packer_init c_Packer_init k_Packer_init
  have b_Packer_init := F_Packer_init.binds (ps := ["self", "book"]) fun _ _ _ _ _ _ us hl => match us, hl with | [_, _], _ => rfl
  have F_Packer_put := fun_mk (st := s_Packer_put) l_Packer_put c_Packer_put k_Packer_put
  have b_Packer_put := F_Packer_put.binds (ps := ["self", "part"]) fun _ _ _ _ _ _ us hl => match us, hl with | [_, _], _ => rfl
  have F_Unpacker_init := fun_mk (st := s_Unpacker_init) l_Unpacker_init c_Unpacker_init k_Unpacker_init
  have b_Unpacker_init := F_Unpacker_init.binds (ps := ["self", "book", "many"]) fun _ _ _ _ _ _ us hl => match us, hl with | [_, _, _], _ => rfl
  have F_Unpacker_put := fun_mk (st := s_Unpacker_put) l_Unpacker_put c_Unpacker_put k_Unpacker_put
  have b_Unpacker_put := F_Unpacker_put.binds (ps := ["self", "bits"]) fun _ _ _ _ _ _ us hl => match us, hl with | [_, _], _ => rfl
  have F_pack := fun_mk (st := s_pack) l_pack c_pack k_pack
  have b_pack := F_pack.binds (ps := ["book", "text"]) fun _ _ _ _ _ _ us hl => match us, hl with | [_, _], _ => rfl
  have F_unpack := fun_mk (st := s_unpack) l_unpack c_unpack k_unpack
  have b_unpack := F_unpack.binds (ps := ["book", "bits", "many"]) fun _ _ _ _ _ _ us hl => match us, hl with | [_, _, _], _ => rfl
  have F_good_signs := fun_mk (st := s_good_signs) l_good_signs c_good_signs k_good_signs
  have b_good_signs := F_good_signs.binds (ps := ["signs"]) fun _ _ _ _ _ _ us hl => match us, hl with | [_], _ => rfl
  have F_Book_init := fun_mk (st := s_Book_init) l_Book_init c_Book_init k_Book_init
  have b_Book_init := F_Book_init.binds (ps := ["self", "signs", "size", "cap"]) fun _ _ _ _ _ _ us hl => match us, hl with | [_, _, _, _], _ => rfl
  have F_report := fun_mk (st := s_report) l_report c_report k_report
  have b_report := F_report.binds (ps := ["book", "text"]) fun _ _ _ _ _ _ us hl => match us, hl with | [_, _], _ => rfl
  have F_written := fun_mk (st := s_written) l_written c_written k_written
  have b_written := F_written.binds (ps := ["book", "text"]) fun _ _ _ _ _ _ us hl => match us, hl with | [_, _], _ => rfl
  have F_law_cell_at := fun_mk (st := s_law_cell_at) l_law_cell_at c_law_cell_at k_law_cell_at
  have b_law_cell_at := F_law_cell_at.binds (ps := ["_law_script", "_law_k"]) fun _ _ _ _ _ _ us hl => match us, hl with | [_, _], _ => rfl
  have F_law_many_by := fun_mk (st := s_law_many_by) l_law_many_by c_law_many_by k_law_many_by
  have b_law_many_by := F_law_many_by.binds (ps := ["_law_cell"]) fun _ _ _ _ _ _ us hl => match us, hl with | [_], _ => rfl
  have F_law_signs_by := fun_mk (st := s_law_signs_by) l_law_signs_by c_law_signs_by k_law_signs_by
  have b_law_signs_by := F_law_signs_by.binds (ps := ["_law_cell", "_law_many"]) fun _ _ _ _ _ _ us hl => match us, hl with | [_, _], _ => rfl
  have F_law_text_by := fun_mk (st := s_law_text_by) l_law_text_by c_law_text_by k_law_text_by
  have b_law_text_by := F_law_text_by.binds (ps := ["_law_script", "_law_first", "_law_signs", "_law_size"]) fun _ _ _ _ _ _ us hl => match us, hl with | [_, _, _, _], _ => rfl
  have F_law_book_by := fun_mk (st := s_law_book_by) l_law_book_by c_law_book_by k_law_book_by
  have b_law_book_by := F_law_book_by.binds (ps := ["_law_script"]) fun _ _ _ _ _ _ us hl => match us, hl with | [_], _ => rfl
  have F_law_kinds := fun_mk (st := s_law_kinds) l_law_kinds c_law_kinds k_law_kinds
  have b_law_kinds := F_law_kinds.binds (ps := ["_law_e"]) fun _ _ _ _ _ _ us hl => match us, hl with | [_], _ => rfl
  have F_law_told := fun_mk (st := s_law_told) l_law_told c_law_told k_law_told
  have b_law_told := F_law_told.binds (ps := ["_law_call"]) fun _ _ _ _ _ _ us hl => match us, hl with | [_], _ => rfl
  have F_law_count_drawn := fun_mk (st := s_law_count_drawn) l_law_count_drawn c_law_count_drawn k_law_count_drawn
  have b_law_count_drawn := F_law_count_drawn.binds (ps := ["_law_cell", "_law_many"]) fun _ _ _ _ _ _ us hl => match us, hl with | [_, _], _ => rfl
  have F_law_count_due := fun_mk (st := s_law_count_due) l_law_count_due c_law_count_due k_law_count_due
  have b_law_count_due := F_law_count_due.binds (ps := ["_law_thing"]) fun _ _ _ _ _ _ us hl => match us, hl with | [_], _ => rfl
  have F_law_put_in := fun_mk (st := s_law_put_in) l_law_put_in c_law_put_in k_law_put_in
  have b_law_put_in := F_law_put_in.binds (ps := ["_law_row", "_law_at", "_law_sign"]) fun _ _ _ _ _ _ us hl => match us, hl with | [_, _, _], _ => rfl
  have F_law_stands := fun_mk (st := s_law_stands) l_law_stands c_law_stands k_law_stands
  have b_law_stands := F_law_stands.binds (ps := ["_law_found"]) fun _ _ _ _ _ _ us hl => match us, hl with | [_], _ => rfl
  have F_law_goes_on := fun_mk (st := s_law_goes_on) l_law_goes_on c_law_goes_on k_law_goes_on
  have b_law_goes_on := F_law_goes_on.binds (ps := ["_law_book", "_law_text", "_law_bits", "_law_odd", "_law_at"]) fun _ _ _ _ _ _ us hl => match us, hl with | [_, _, _, _, _], _ => rfl
  have F_law := fun_mk (st := s_law) l_law c_law k_law
  have b_law := F_law.binds (ps := ["_law_script"]) fun _ _ _ _ _ _ us hl => match us, hl with | [_], _ => rfl
  let A : Adr := { f_whole := f_whole, d_whole := (PySem.W.fnOf "whole" "whole" (defArgs s_whole) (defBody s_whole) (defScope s_whole) .none kV_whole dc_whole pm_whole an_whole cd_whole ct_whole), f_whole_row := f_whole_row, d_whole_row := (PySem.W.fnOf "whole_row" "whole_row" (defArgs s_whole_row) (defBody s_whole_row) (defScope s_whole_row) .none kV_whole_row dc_whole_row pm_whole_row an_whole_row cd_whole_row ct_whole_row), f_need_shares := f_need_shares, d_need_shares := (PySem.W.fnOf "need_shares" "need_shares" (defArgs s_need_shares) (defBody s_need_shares) (defScope s_need_shares) .none kV_need_shares dc_need_shares pm_need_shares an_need_shares cd_need_shares ct_need_shares), f_counted := f_counted, d_counted := (PySem.W.fnOf "counted" "counted" (defArgs s_counted) (defBody s_counted) (defScope s_counted) .none kV_counted dc_counted pm_counted an_counted cd_counted ct_counted), f_halved := f_halved, d_halved := (PySem.W.fnOf "halved" "halved" (defArgs s_halved) (defBody s_halved) (defScope s_halved) .none kV_halved dc_halved pm_halved an_halved cd_halved ct_halved), f_learnt := f_learnt, d_learnt := (PySem.W.fnOf "learnt" "learnt" (defArgs s_learnt) (defBody s_learnt) (defScope s_learnt) .none kV_learnt dc_learnt pm_learnt an_learnt cd_learnt ct_learnt), f_pairs := f_pairs, d_pairs := (PySem.W.fnOf "pairs" "pairs" (defArgs s_pairs) (defBody s_pairs) (defScope s_pairs) .none kV_pairs dc_pairs pm_pairs an_pairs cd_pairs ct_pairs), f_codes := f_codes, d_codes := (PySem.W.fnOf "codes" "codes" (defArgs s_codes) (defBody s_codes) (defScope s_codes) .none kV_codes dc_codes pm_codes an_codes cd_codes ct_codes), f_need_signs := f_need_signs, d_need_signs := (PySem.W.fnOf "need_signs" "need_signs" (defArgs s_need_signs) (defBody s_need_signs) (defScope s_need_signs) .none kV_need_signs dc_need_signs pm_need_signs an_need_signs cd_need_signs ct_need_signs), f_Learner_init := f_Learner_init, d_Learner_init := (PySem.W.fnOf "__init__" "Learner.__init__" (defArgs s_Learner_init) (defBody s_Learner_init) (defScope s_Learner_init) .none kV_Learner_init dc_Learner_init pm_Learner_init an_Learner_init cd_Learner_init ct_Learner_init), f_Learner_took := f_Learner_took, d_Learner_took := (PySem.W.fnOf "took" "Learner.took" (defArgs s_Learner_took) (defBody s_Learner_took) (defScope s_Learner_took) .none kV_Learner_took dc_Learner_took pm_Learner_took an_Learner_took cd_Learner_took ct_Learner_took), f_Learner_copied := f_Learner_copied, d_Learner_copied := (PySem.W.fnOf "copied" "Learner.copied" (defArgs s_Learner_copied) (defBody s_Learner_copied) (defScope s_Learner_copied) .none kV_Learner_copied dc_Learner_copied pm_Learner_copied an_Learner_copied cd_Learner_copied ct_Learner_copied), f_Packer_init := f_Packer_init, d_Packer_init := (PySem.W.fnOf "__init__" "Packer.__init__" (defArgs s_Packer_init) (defBody s_Packer_init) (defScope s_Packer_init) .none kV_Packer_init dc_Packer_init pm_Packer_init an_Packer_init cd_Packer_init ct_Packer_init), f_Packer_put := f_Packer_put, d_Packer_put := (PySem.W.fnOf "put" "Packer.put" (defArgs s_Packer_put) (defBody s_Packer_put) (defScope s_Packer_put) .none kV_Packer_put dc_Packer_put pm_Packer_put an_Packer_put cd_Packer_put ct_Packer_put), f_Unpacker_init := f_Unpacker_init, d_Unpacker_init := (PySem.W.fnOf "__init__" "Unpacker.__init__" (defArgs s_Unpacker_init) (defBody s_Unpacker_init) (defScope s_Unpacker_init) .none kV_Unpacker_init dc_Unpacker_init pm_Unpacker_init an_Unpacker_init cd_Unpacker_init ct_Unpacker_init), f_Unpacker_put := f_Unpacker_put, d_Unpacker_put := (PySem.W.fnOf "put" "Unpacker.put" (defArgs s_Unpacker_put) (defBody s_Unpacker_put) (defScope s_Unpacker_put) .none kV_Unpacker_put dc_Unpacker_put pm_Unpacker_put an_Unpacker_put cd_Unpacker_put ct_Unpacker_put), f_pack := f_pack, d_pack := (PySem.W.fnOf "pack" "pack" (defArgs s_pack) (defBody s_pack) (defScope s_pack) .none kV_pack dc_pack pm_pack an_pack cd_pack ct_pack), f_unpack := f_unpack, d_unpack := (PySem.W.fnOf "unpack" "unpack" (defArgs s_unpack) (defBody s_unpack) (defScope s_unpack) .none kV_unpack dc_unpack pm_unpack an_unpack cd_unpack ct_unpack), f_good_signs := f_good_signs, d_good_signs := (PySem.W.fnOf "good_signs" "good_signs" (defArgs s_good_signs) (defBody s_good_signs) (defScope s_good_signs) .none kV_good_signs dc_good_signs pm_good_signs an_good_signs cd_good_signs ct_good_signs), f_Book_init := f_Book_init, d_Book_init := (PySem.W.fnOf "__init__" "Book.__init__" (defArgs s_Book_init) (defBody s_Book_init) (defScope s_Book_init) .none kV_Book_init dc_Book_init pm_Book_init an_Book_init cd_Book_init ct_Book_init), f_report := f_report, d_report := (PySem.W.fnOf "report" "report" (defArgs s_report) (defBody s_report) (defScope s_report) .none kV_report dc_report pm_report an_report cd_report ct_report), f_written := f_written, d_written := (PySem.W.fnOf "written" "written" (defArgs s_written) (defBody s_written) (defScope s_written) .none kV_written dc_written pm_written an_written cd_written ct_written), f_law_cell_at := f_law_cell_at, d_law_cell_at := (PySem.W.fnOf "_law_cell_at" "_law_cell_at" (defArgs s_law_cell_at) (defBody s_law_cell_at) (defScope s_law_cell_at) .none kV_law_cell_at dc_law_cell_at pm_law_cell_at an_law_cell_at cd_law_cell_at ct_law_cell_at), f_law_many_by := f_law_many_by, d_law_many_by := (PySem.W.fnOf "_law_many_by" "_law_many_by" (defArgs s_law_many_by) (defBody s_law_many_by) (defScope s_law_many_by) .none kV_law_many_by dc_law_many_by pm_law_many_by an_law_many_by cd_law_many_by ct_law_many_by), f_law_signs_by := f_law_signs_by, d_law_signs_by := (PySem.W.fnOf "_law_signs_by" "_law_signs_by" (defArgs s_law_signs_by) (defBody s_law_signs_by) (defScope s_law_signs_by) .none kV_law_signs_by dc_law_signs_by pm_law_signs_by an_law_signs_by cd_law_signs_by ct_law_signs_by), f_law_text_by := f_law_text_by, d_law_text_by := (PySem.W.fnOf "_law_text_by" "_law_text_by" (defArgs s_law_text_by) (defBody s_law_text_by) (defScope s_law_text_by) .none kV_law_text_by dc_law_text_by pm_law_text_by an_law_text_by cd_law_text_by ct_law_text_by), f_law_book_by := f_law_book_by, d_law_book_by := (PySem.W.fnOf "_law_book_by" "_law_book_by" (defArgs s_law_book_by) (defBody s_law_book_by) (defScope s_law_book_by) .none kV_law_book_by dc_law_book_by pm_law_book_by an_law_book_by cd_law_book_by ct_law_book_by), f_law_kinds := f_law_kinds, d_law_kinds := (PySem.W.fnOf "_law_kinds" "_law_kinds" (defArgs s_law_kinds) (defBody s_law_kinds) (defScope s_law_kinds) .none kV_law_kinds dc_law_kinds pm_law_kinds an_law_kinds cd_law_kinds ct_law_kinds), f_law_told := f_law_told, d_law_told := (PySem.W.fnOf "_law_told" "_law_told" (defArgs s_law_told) (defBody s_law_told) (defScope s_law_told) .none kV_law_told dc_law_told pm_law_told an_law_told cd_law_told ct_law_told), f_law_count_drawn := f_law_count_drawn, d_law_count_drawn := (PySem.W.fnOf "_law_count_drawn" "_law_count_drawn" (defArgs s_law_count_drawn) (defBody s_law_count_drawn) (defScope s_law_count_drawn) .none kV_law_count_drawn dc_law_count_drawn pm_law_count_drawn an_law_count_drawn cd_law_count_drawn ct_law_count_drawn), f_law_count_due := f_law_count_due, d_law_count_due := (PySem.W.fnOf "_law_count_due" "_law_count_due" (defArgs s_law_count_due) (defBody s_law_count_due) (defScope s_law_count_due) .none kV_law_count_due dc_law_count_due pm_law_count_due an_law_count_due cd_law_count_due ct_law_count_due), f_law_put_in := f_law_put_in, d_law_put_in := (PySem.W.fnOf "_law_put_in" "_law_put_in" (defArgs s_law_put_in) (defBody s_law_put_in) (defScope s_law_put_in) .none kV_law_put_in dc_law_put_in pm_law_put_in an_law_put_in cd_law_put_in ct_law_put_in), f_law_stands := f_law_stands, d_law_stands := (PySem.W.fnOf "_law_stands" "_law_stands" (defArgs s_law_stands) (defBody s_law_stands) (defScope s_law_stands) .none kV_law_stands dc_law_stands pm_law_stands an_law_stands cd_law_stands ct_law_stands), f_law_goes_on := f_law_goes_on, d_law_goes_on := (PySem.W.fnOf "_law_goes_on" "_law_goes_on" (defArgs s_law_goes_on) (defBody s_law_goes_on) (defScope s_law_goes_on) .none kV_law_goes_on dc_law_goes_on pm_law_goes_on an_law_goes_on cd_law_goes_on ct_law_goes_on), f_law := fa, d_law := (PySem.W.fnOf "law" "law" (defArgs s_law) (defBody s_law) (defScope s_law) .none kV_law dc_law pm_law an_law cd_law ct_law), C_BadBit := C_BadBit, C_BadBook := C_BadBook, C_BadCount := C_BadCount, C_BadLine := C_BadLine, C_BadShares := C_BadShares, C_BadSign := C_BadSign, C_Book := C_Book, C_Learner := C_Learner, C_Loose := C_Loose, C_PackError := C_PackError, C_Packer := C_Packer, C_Short := C_Short, C_Unpacker := C_Unpacker, t_MOST_CAP := t_MOST_CAP, t_MOST_SHARE := t_MOST_SHARE, t_MOST_SIGNS := t_MOST_SIGNS, t_MOST_SIZE := t_MOST_SIZE, t_MOST_TEXT := t_MOST_TEXT, c_law_goes_on := co_law_goes_on, P_law_goes_on := P_law_goes_on, c_law := co_law, P_law := P_law }
  have T : Txt K mg A := { F_whole := F_whole, b_whole := b_whole, g_whole := PySem.W.mg_of X G a_whole, F_whole_row := F_whole_row, b_whole_row := b_whole_row, g_whole_row := PySem.W.mg_of X G a_whole_row, F_need_shares := F_need_shares, b_need_shares := b_need_shares, g_need_shares := PySem.W.mg_of X G a_need_shares, F_counted := F_counted, b_counted := b_counted, g_counted := PySem.W.mg_of X G a_counted, F_halved := F_halved, b_halved := b_halved, g_halved := PySem.W.mg_of X G a_halved, F_learnt := F_learnt, b_learnt := b_learnt, g_learnt := PySem.W.mg_of X G a_learnt, F_pairs := F_pairs, b_pairs := b_pairs, g_pairs := PySem.W.mg_of X G a_pairs, F_codes := F_codes, b_codes := b_codes, g_codes := PySem.W.mg_of X G a_codes, F_need_signs := F_need_signs, b_need_signs := b_need_signs, g_need_signs := PySem.W.mg_of X G a_need_signs, F_Learner_init := F_Learner_init, b_Learner_init := b_Learner_init, F_Learner_took := F_Learner_took, b_Learner_took := b_Learner_took, F_Learner_copied := F_Learner_copied, b_Learner_copied := b_Learner_copied, F_Packer_init := F_Packer_init, b_Packer_init := b_Packer_init, F_Packer_put := F_Packer_put, b_Packer_put := b_Packer_put, F_Unpacker_init := F_Unpacker_init, b_Unpacker_init := b_Unpacker_init, F_Unpacker_put := F_Unpacker_put, b_Unpacker_put := b_Unpacker_put, F_pack := F_pack, b_pack := b_pack, g_pack := PySem.W.mg_of X G a_pack, F_unpack := F_unpack, b_unpack := b_unpack, g_unpack := PySem.W.mg_of X G a_unpack, F_good_signs := F_good_signs, b_good_signs := b_good_signs, g_good_signs := PySem.W.mg_of X G a_good_signs, F_Book_init := F_Book_init, b_Book_init := b_Book_init, F_report := F_report, b_report := b_report, g_report := PySem.W.mg_of X G a_report, F_written := F_written, b_written := b_written, g_written := PySem.W.mg_of X G a_written, F_law_cell_at := F_law_cell_at, b_law_cell_at := b_law_cell_at, g_law_cell_at := PySem.W.mg_of X G a_law_cell_at, F_law_many_by := F_law_many_by, b_law_many_by := b_law_many_by, g_law_many_by := PySem.W.mg_of X G a_law_many_by, F_law_signs_by := F_law_signs_by, b_law_signs_by := b_law_signs_by, g_law_signs_by := PySem.W.mg_of X G a_law_signs_by, F_law_text_by := F_law_text_by, b_law_text_by := b_law_text_by, g_law_text_by := PySem.W.mg_of X G a_law_text_by, F_law_book_by := F_law_book_by, b_law_book_by := b_law_book_by, g_law_book_by := PySem.W.mg_of X G a_law_book_by, F_law_kinds := F_law_kinds, b_law_kinds := b_law_kinds, g_law_kinds := PySem.W.mg_of X G a_law_kinds, F_law_told := F_law_told, b_law_told := b_law_told, g_law_told := PySem.W.mg_of X G a_law_told, F_law_count_drawn := F_law_count_drawn, b_law_count_drawn := b_law_count_drawn, g_law_count_drawn := PySem.W.mg_of X G a_law_count_drawn, F_law_count_due := F_law_count_due, b_law_count_due := b_law_count_due, g_law_count_due := PySem.W.mg_of X G a_law_count_due, F_law_put_in := F_law_put_in, b_law_put_in := b_law_put_in, g_law_put_in := PySem.W.mg_of X G a_law_put_in, F_law_stands := F_law_stands, b_law_stands := b_law_stands, g_law_stands := PySem.W.mg_of X G a_law_stands, F_law_goes_on := F_law_goes_on, b_law_goes_on := b_law_goes_on, g_law_goes_on := PySem.W.mg_of X G a_law_goes_on, cd_law_goes_on := cc_law_goes_on, F_law := F_law, b_law := b_law, g_law := PySem.W.mg_of X G a_law, cd_law := cc_law, g_Book := PySem.W.mg_of X G g_Book, cl_Book := ⟨pg_Book, hd_Book, po_Book, sa_Book⟩, g_Learner := PySem.W.mg_of X G g_Learner, cl_Learner := ⟨pg_Learner, hd_Learner, po_Learner, sa_Learner⟩, g_Packer := PySem.W.mg_of X G g_Packer, cl_Packer := ⟨pg_Packer, hd_Packer, po_Packer, sa_Packer⟩, g_Unpacker := PySem.W.mg_of X G g_Unpacker, cl_Unpacker := ⟨pg_Unpacker, hd_Unpacker, po_Unpacker, sa_Unpacker⟩, nP := nP, g_BadBit := PySem.W.mg_of X G g_BadBit, x_BadBit := ⟨xx_BadBit, xk_BadBit, xb_BadBit, xt_BadBit, xi_BadBit, ⟨xg_BadBit, xh_BadBit, xb_BadBit, xd_BadBit, xa_BadBit, xn, xtk, xm_BadBit⟩, xv_BadBit⟩, g_BadBook := PySem.W.mg_of X G g_BadBook, x_BadBook := ⟨xx_BadBook, xk_BadBook, xb_BadBook, xt_BadBook, xi_BadBook, ⟨xg_BadBook, xh_BadBook, xb_BadBook, xd_BadBook, xa_BadBook, xn, xtk, xm_BadBook⟩, xv_BadBook⟩, g_BadCount := PySem.W.mg_of X G g_BadCount, x_BadCount := ⟨xx_BadCount, xk_BadCount, xb_BadCount, xt_BadCount, xi_BadCount, ⟨xg_BadCount, xh_BadCount, xb_BadCount, xd_BadCount, xa_BadCount, xn, xtk, xm_BadCount⟩, xv_BadCount⟩, g_BadLine := PySem.W.mg_of X G g_BadLine, x_BadLine := ⟨xx_BadLine, xk_BadLine, xb_BadLine, xt_BadLine, xi_BadLine, ⟨xg_BadLine, xh_BadLine, xb_BadLine, xd_BadLine, xa_BadLine, xn, xtk, xm_BadLine⟩, xv_BadLine⟩, g_BadShares := PySem.W.mg_of X G g_BadShares, x_BadShares := ⟨xx_BadShares, xk_BadShares, xb_BadShares, xt_BadShares, xi_BadShares, ⟨xg_BadShares, xh_BadShares, xb_BadShares, xd_BadShares, xa_BadShares, xn, xtk, xm_BadShares⟩, xv_BadShares⟩, g_BadSign := PySem.W.mg_of X G g_BadSign, x_BadSign := ⟨xx_BadSign, xk_BadSign, xb_BadSign, xt_BadSign, xi_BadSign, ⟨xg_BadSign, xh_BadSign, xb_BadSign, xd_BadSign, xa_BadSign, xn, xtk, xm_BadSign⟩, xv_BadSign⟩, g_Loose := PySem.W.mg_of X G g_Loose, x_Loose := ⟨xx_Loose, xk_Loose, xb_Loose, xt_Loose, xi_Loose, ⟨xg_Loose, xh_Loose, xb_Loose, xd_Loose, xa_Loose, xn, xtk, xm_Loose⟩, xv_Loose⟩, g_PackError := PySem.W.mg_of X G g_PackError, x_PackError := ⟨xx_PackError, xk_PackError, xb_PackError, xt_PackError, xi_PackError, ⟨xg_PackError, xh_PackError, xb_PackError, xd_PackError, xa_PackError, xn, xtk, xm_PackError⟩, xv_PackError⟩, g_Short := PySem.W.mg_of X G g_Short, x_Short := ⟨xx_Short, xk_Short, xb_Short, xt_Short, xi_Short, ⟨xg_Short, xh_Short, xb_Short, xd_Short, xa_Short, xn, xtk, xm_Short⟩, xv_Short⟩, s_BadBit_BadBit := s_BadBit_BadBit, s_BadBit_BadBook := s_BadBit_BadBook, s_BadBit_BadCount := s_BadBit_BadCount, s_BadBit_BadLine := s_BadBit_BadLine, s_BadBit_BadShares := s_BadBit_BadShares, s_BadBit_BadSign := s_BadBit_BadSign, s_BadBit_Loose := s_BadBit_Loose, s_BadBit_PackError := s_BadBit_PackError, s_BadBit_Short := s_BadBit_Short, s_BadCount_BadBit := s_BadCount_BadBit, s_BadCount_BadBook := s_BadCount_BadBook, s_BadCount_BadCount := s_BadCount_BadCount, s_BadCount_BadLine := s_BadCount_BadLine, s_BadCount_BadShares := s_BadCount_BadShares, s_BadCount_BadSign := s_BadCount_BadSign, s_BadCount_Loose := s_BadCount_Loose, s_BadCount_PackError := s_BadCount_PackError, s_BadCount_Short := s_BadCount_Short, s_BadSign_BadBit := s_BadSign_BadBit, s_BadSign_BadBook := s_BadSign_BadBook, s_BadSign_BadCount := s_BadSign_BadCount, s_BadSign_BadLine := s_BadSign_BadLine, s_BadSign_BadShares := s_BadSign_BadShares, s_BadSign_BadSign := s_BadSign_BadSign, s_BadSign_Loose := s_BadSign_Loose, s_BadSign_PackError := s_BadSign_PackError, s_BadSign_Short := s_BadSign_Short, s_Loose_BadBit := s_Loose_BadBit, s_Loose_BadBook := s_Loose_BadBook, s_Loose_BadCount := s_Loose_BadCount, s_Loose_BadLine := s_Loose_BadLine, s_Loose_BadShares := s_Loose_BadShares, s_Loose_BadSign := s_Loose_BadSign, s_Loose_Loose := s_Loose_Loose, s_Loose_PackError := s_Loose_PackError, s_Loose_Short := s_Loose_Short, s_Short_BadBit := s_Short_BadBit, s_Short_BadBook := s_Short_BadBook, s_Short_BadCount := s_Short_BadCount, s_Short_BadLine := s_Short_BadLine, s_Short_BadShares := s_Short_BadShares, s_Short_BadSign := s_Short_BadSign, s_Short_Loose := s_Short_Loose, s_Short_PackError := s_Short_PackError, s_Short_Short := s_Short_Short, na_Book_cap := na_Book_cap, na_Book_signs := na_Book_signs, na_Book_size := na_Book_size, na_Learner_book := na_Learner_book, na_Learner_shares := na_Learner_shares, na_Learner_waits := na_Learner_waits, na_Learner_words := na_Learner_words, na_Packer_book := na_Packer_book, na_Packer_learner := na_Packer_learner, na_Unpacker_book := na_Unpacker_book, na_Unpacker_learner := na_Unpacker_learner, na_Unpacker_left := na_Unpacker_left, na_Unpacker_rest := na_Unpacker_rest, m_Learner_copied := ⟨a_Learner_copied, i_Learner_copied, k_Learner_copied⟩, m_Learner_took := ⟨a_Learner_took, i_Learner_took, k_Learner_took⟩, m_Packer_put := ⟨a_Packer_put, i_Packer_put, k_Packer_put⟩, m_Unpacker_put := ⟨a_Unpacker_put, i_Unpacker_put, k_Unpacker_put⟩, mk_Book := ⟨mk_Book, a_Book_init, i_Book_init, kc_Book⟩, mk_Learner := ⟨mk_Learner, a_Learner_init, i_Learner_init, kc_Learner⟩, mk_Packer := ⟨mk_Packer, a_Packer_init, i_Packer_init, kc_Packer⟩, mk_Unpacker := ⟨mk_Unpacker, a_Unpacker_init, i_Unpacker_init, kc_Unpacker⟩, n_ValueError := PySem.W.mg_none_of X G n_ValueError, n_bool := PySem.W.mg_none_of X G n_bool, n_enumerate := PySem.W.mg_none_of X G n_enumerate, n_int := PySem.W.mg_none_of X G n_int, n_isinstance := PySem.W.mg_none_of X G n_isinstance, n_len := PySem.W.mg_none_of X G n_len, n_list := PySem.W.mg_none_of X G n_list, n_max := PySem.W.mg_none_of X G n_max, n_ord := PySem.W.mg_none_of X G n_ord, n_range := PySem.W.mg_none_of X G n_range, n_reversed := PySem.W.mg_none_of X G n_reversed, n_sorted := PySem.W.mg_none_of X G n_sorted, n_str := PySem.W.mg_none_of X G n_str, n_sum := PySem.W.mg_none_of X G n_sum, n_zip := PySem.W.mg_none_of X G n_zip, c_MOST_CAP := PySem.W.mg_of X G c_MOST_CAP, c_MOST_SHARE := PySem.W.mg_of X G c_MOST_SHARE, c_MOST_SIGNS := PySem.W.mg_of X G c_MOST_SIGNS, c_MOST_SIZE := PySem.W.mg_of X G c_MOST_SIZE, c_MOST_TEXT := PySem.W.mg_of X G c_MOST_TEXT }
  refine ⟨(PySem.W.fnOf "law" "law" (defArgs s_law) (defBody s_law) (defScope s_law) .none kV_law dc_law pm_law an_law cd_law ct_law), [(co_law_goes_on, P_law_goes_on), (co_law, P_law)], sp_law K A, List.forall_mem_cons.mpr ⟨hT_law_goes_on, List.forall_mem_cons.mpr ⟨hT_law, fun _ hp => absurd hp List.not_mem_nil⟩⟩, List.forall_mem_cons.mpr ⟨nT_law_goes_on, List.forall_mem_cons.mpr ⟨nT_law, fun _ hp => absurd hp List.not_mem_nil⟩⟩, List.forall_mem_cons.mpr ⟨PySem.W.codeHd_of_K X hh_law_goes_on, List.forall_mem_cons.mpr ⟨PySem.W.codeHd_of_K X hh_law, fun _ hp => absurd hp List.not_mem_nil⟩⟩, fun s v => .of_eq rfl, fun H a ns hl _ hH hS => ⟨a, ns, rfl, hS, hl, (hH _ List.mem_cons_self), (hH _ (List.mem_cons_of_mem _ List.mem_cons_self)), fun _ => rfl⟩, fun base _ _ TB => ok_law T (TB _ List.mem_cons_self) (TB _ (List.mem_cons_of_mem _ List.mem_cons_self))⟩
theorem walk {l : PySem.W.OpenLaw} {q : Program} {loose : List Str} {XP : (Str → Option Value) → Heap → Prop} {YP : World → Heap → Prop} {d : DefRec} {K : Params → PySem.W.Frag} (hn : l.most = some 63) (hdf : d.params.defaults = [])
    (hY : ∀ (w : World) (h : Heap), YP w h → (K w.params).In h)
    (F : ∀ (w : World) (mg : Str → Option Value) (fa : Addr) (h : Heap), YP w h → (K w.params).In h → h.Ns mainGlobals mg → mg d.name = some (.ref fa) → LamX.LawAtS l w (K w.params) CX0 15 63 "_law_script" mg fa h) :
    PySem.W.WalkO q loose XP YP l.row.toRowW d [] (fun f vs => PySem.call f vs) :=
  LamX.walk_ofTs (n := 63) (k := 15) (x := "_law_script") (CX := fun _ => CX0) hn (by decide) hdf ⟨rfl, by decide, by decide⟩ hY F fun _ _ _ _ _ z => z
end Sp
open PySem PySem.W PyProof.Rows in
set_option maxRecDepth 100000 in
set_option maxHeartbeats 0 in
theorem PySem.Challenge.cw_sharepack_k10_refused_bits_holds : PySem.Challenge.rw_sharepack_k10_refused_bits.Holds := by
  w_on; o_law; k_head; (case hw => w_witness2)
  k_fill
  refine Sp.walk (l := PySem.Challenge.rw_sharepack_k10_refused_bits) rfl rfl (fun w h Y => PySem.W.km_in_of Y) ?F
  case F =>
    intro w mg fa h Y KX G hmg
    refine' Sp.all_mk KX G hmg ?g_Book ?pg_Book ?hd_Book ?po_Book ?sa_Book ?mk_Book ?kc_Book ?na_Book_cap ?na_Book_signs ?na_Book_size ?g_Learner ?pg_Learner ?hd_Learner ?po_Learner ?sa_Learner ?mk_Learner ?kc_Learner ?na_Learner_book ?na_Learner_shares ?na_Learner_waits ?na_Learner_words ?g_Packer ?pg_Packer ?hd_Packer ?po_Packer ?sa_Packer ?mk_Packer ?kc_Packer ?na_Packer_book ?na_Packer_learner ?g_Unpacker ?pg_Unpacker ?hd_Unpacker ?po_Unpacker ?sa_Unpacker ?mk_Unpacker ?kc_Unpacker ?na_Unpacker_book ?na_Unpacker_learner ?na_Unpacker_left ?na_Unpacker_rest ?g_BadBit ?xx_BadBit ?xk_BadBit ?xb_BadBit ?xt_BadBit ?xi_BadBit ?xv_BadBit ?xg_BadBit ?xh_BadBit ?xd_BadBit ?xa_BadBit ?xm_BadBit ?g_BadBook ?xx_BadBook ?xk_BadBook ?xb_BadBook ?xt_BadBook ?xi_BadBook ?xv_BadBook ?xg_BadBook ?xh_BadBook ?xd_BadBook ?xa_BadBook ?xm_BadBook ?g_BadCount ?xx_BadCount ?xk_BadCount ?xb_BadCount ?xt_BadCount ?xi_BadCount ?xv_BadCount ?xg_BadCount ?xh_BadCount ?xd_BadCount ?xa_BadCount ?xm_BadCount ?g_BadLine ?xx_BadLine ?xk_BadLine ?xb_BadLine ?xt_BadLine ?xi_BadLine ?xv_BadLine ?xg_BadLine ?xh_BadLine ?xd_BadLine ?xa_BadLine ?xm_BadLine ?g_BadShares ?xx_BadShares ?xk_BadShares ?xb_BadShares ?xt_BadShares ?xi_BadShares ?xv_BadShares ?xg_BadShares ?xh_BadShares ?xd_BadShares ?xa_BadShares ?xm_BadShares ?g_BadSign ?xx_BadSign ?xk_BadSign ?xb_BadSign ?xt_BadSign ?xi_BadSign ?xv_BadSign ?xg_BadSign ?xh_BadSign ?xd_BadSign ?xa_BadSign ?xm_BadSign ?g_Loose ?xx_Loose ?xk_Loose ?xb_Loose ?xt_Loose ?xi_Loose ?xv_Loose ?xg_Loose ?xh_Loose ?xd_Loose ?xa_Loose ?xm_Loose ?g_PackError ?xx_PackError ?xk_PackError ?xb_PackError ?xt_PackError ?xi_PackError ?xv_PackError ?xg_PackError ?xh_PackError ?xd_PackError ?xa_PackError ?xm_PackError ?g_Short ?xx_Short ?xk_Short ?xb_Short ?xt_Short ?xi_Short ?xv_Short ?xg_Short ?xh_Short ?xd_Short ?xa_Short ?xm_Short ?xn ?xtk ?s_BadBit_BadBit ?s_BadBit_BadBook ?s_BadBit_BadCount ?s_BadBit_BadLine ?s_BadBit_BadShares ?s_BadBit_BadSign ?s_BadBit_Loose ?s_BadBit_PackError ?s_BadBit_Short ?s_BadCount_BadBit ?s_BadCount_BadBook ?s_BadCount_BadCount ?s_BadCount_BadLine ?s_BadCount_BadShares ?s_BadCount_BadSign ?s_BadCount_Loose ?s_BadCount_PackError ?s_BadCount_Short ?s_BadSign_BadBit ?s_BadSign_BadBook ?s_BadSign_BadCount ?s_BadSign_BadLine ?s_BadSign_BadShares ?s_BadSign_BadSign ?s_BadSign_Loose ?s_BadSign_PackError ?s_BadSign_Short ?s_Loose_BadBit ?s_Loose_BadBook ?s_Loose_BadCount ?s_Loose_BadLine ?s_Loose_BadShares ?s_Loose_BadSign ?s_Loose_Loose ?s_Loose_PackError ?s_Loose_Short ?s_Short_BadBit ?s_Short_BadBook ?s_Short_BadCount ?s_Short_BadLine ?s_Short_BadShares ?s_Short_BadSign ?s_Short_Loose ?s_Short_PackError ?s_Short_Short ?a_whole ?l_whole ?c_whole ?k_whole ?a_whole_row ?l_whole_row ?c_whole_row ?k_whole_row ?a_need_shares ?l_need_shares ?c_need_shares ?k_need_shares ?a_counted ?l_counted ?c_counted ?k_counted ?a_halved ?l_halved ?c_halved ?k_halved ?a_learnt ?l_learnt ?c_learnt ?k_learnt ?a_pairs ?l_pairs ?c_pairs ?k_pairs ?a_codes ?l_codes ?c_codes ?k_codes ?a_need_signs ?l_need_signs ?c_need_signs ?k_need_signs ?a_Learner_init ?i_Learner_init ?l_Learner_init ?c_Learner_init ?k_Learner_init ?a_Learner_took ?i_Learner_took ?l_Learner_took ?c_Learner_took ?k_Learner_took ?a_Learner_copied ?i_Learner_copied ?l_Learner_copied ?c_Learner_copied ?k_Learner_copied ?a_Packer_init ?i_Packer_init ?l_Packer_init ?c_Packer_init ?k_Packer_init ?a_Packer_put ?i_Packer_put ?l_Packer_put ?c_Packer_put ?k_Packer_put ?a_Unpacker_init ?i_Unpacker_init ?l_Unpacker_init ?c_Unpacker_init ?k_Unpacker_init ?a_Unpacker_put ?i_Unpacker_put ?l_Unpacker_put ?c_Unpacker_put ?k_Unpacker_put ?a_pack ?l_pack ?c_pack ?k_pack ?a_unpack ?l_unpack ?c_unpack ?k_unpack ?a_good_signs ?l_good_signs ?c_good_signs ?k_good_signs ?a_Book_init ?i_Book_init ?l_Book_init ?c_Book_init ?k_Book_init ?a_report ?l_report ?c_report ?k_report ?a_written ?l_written ?c_written ?k_written ?a_law_cell_at ?l_law_cell_at ?c_law_cell_at ?k_law_cell_at ?a_law_many_by ?l_law_many_by ?c_law_many_by ?k_law_many_by ?a_law_signs_by ?l_law_signs_by ?c_law_signs_by ?k_law_signs_by ?a_law_text_by ?l_law_text_by ?c_law_text_by ?k_law_text_by ?a_law_book_by ?l_law_book_by ?c_law_book_by ?k_law_book_by ?a_law_kinds ?l_law_kinds ?c_law_kinds ?k_law_kinds ?a_law_told ?l_law_told ?c_law_told ?k_law_told ?a_law_count_drawn ?l_law_count_drawn ?c_law_count_drawn ?k_law_count_drawn ?a_law_count_due ?l_law_count_due ?c_law_count_due ?k_law_count_due ?a_law_put_in ?l_law_put_in ?c_law_put_in ?k_law_put_in ?a_law_stands ?l_law_stands ?c_law_stands ?k_law_stands ?a_law_goes_on ?l_law_goes_on ?c_law_goes_on ?k_law_goes_on ?a_law ?l_law ?c_law ?k_law ?cc_law_goes_on ?lc_law_goes_on ?v11_law_goes_on ?hT_law_goes_on ?nT_law_goes_on ?hh_law_goes_on ?cc_law ?lc_law ?v11_law ?hT_law ?nT_law ?hh_law ?nP ?n_ValueError ?n_bool ?n_enumerate ?n_int ?n_isinstance ?n_len ?n_list ?n_max ?n_ord ?n_range ?n_reversed ?n_sorted ?n_str ?n_sum ?n_zip ?c_MOST_CAP ?c_MOST_SHARE ?c_MOST_SIGNS ?c_MOST_SIZE ?c_MOST_TEXT
    (case g_Book => k_is)
    (case pg_Book => k_is)
    (case hd_Book => k_is)
    (case po_Book => k_is)
    (case sa_Book => k_is)
    (case mk_Book => k_is)
    (case kc_Book => k_is)
    (case na_Book_cap => k_is)
    (case na_Book_signs => k_is)
    (case na_Book_size => k_is)
    (case g_Learner => k_is)
    (case pg_Learner => k_is)
    (case hd_Learner => k_is)
    (case po_Learner => k_is)
    (case sa_Learner => k_is)
    (case mk_Learner => k_is)
    (case kc_Learner => k_is)
    (case na_Learner_book => k_is)
    (case na_Learner_shares => k_is)
    (case na_Learner_waits => k_is)
    (case na_Learner_words => k_is)
    (case g_Packer => k_is)
    (case pg_Packer => k_is)
    (case hd_Packer => k_is)
    (case po_Packer => k_is)
    (case sa_Packer => k_is)
    (case mk_Packer => k_is)
    (case kc_Packer => k_is)
    (case na_Packer_book => k_is)
    (case na_Packer_learner => k_is)
    (case g_Unpacker => k_is)
    (case pg_Unpacker => k_is)
    (case hd_Unpacker => k_is)
    (case po_Unpacker => k_is)
    (case sa_Unpacker => k_is)
    (case mk_Unpacker => k_is)
    (case kc_Unpacker => k_is)
    (case na_Unpacker_book => k_is)
    (case na_Unpacker_learner => k_is)
    (case na_Unpacker_left => k_is)
    (case na_Unpacker_rest => k_is)
    (case g_BadBit => k_is)
    (case xx_BadBit => k_exc)
    (case xk_BadBit => k_is)
    (case xb_BadBit => k_is)
    (case xt_BadBit => k_is)
    (case xi_BadBit => k_is)
    (case xv_BadBit => k_is)
    (case xg_BadBit => k_is)
    (case xh_BadBit => k_is)
    (case xd_BadBit => k_is)
    (case xa_BadBit => k_is)
    (case xm_BadBit => k_is)
    (case g_BadBook => k_is)
    (case xx_BadBook => k_exc)
    (case xk_BadBook => k_is)
    (case xb_BadBook => k_is)
    (case xt_BadBook => k_is)
    (case xi_BadBook => k_is)
    (case xv_BadBook => k_is)
    (case xg_BadBook => k_is)
    (case xh_BadBook => k_is)
    (case xd_BadBook => k_is)
    (case xa_BadBook => k_is)
    (case xm_BadBook => k_is)
    (case g_BadCount => k_is)
    (case xx_BadCount => k_exc)
    (case xk_BadCount => k_is)
    (case xb_BadCount => k_is)
    (case xt_BadCount => k_is)
    (case xi_BadCount => k_is)
    (case xv_BadCount => k_is)
    (case xg_BadCount => k_is)
    (case xh_BadCount => k_is)
    (case xd_BadCount => k_is)
    (case xa_BadCount => k_is)
    (case xm_BadCount => k_is)
    (case g_BadLine => k_is)
    (case xx_BadLine => k_exc)
    (case xk_BadLine => k_is)
    (case xb_BadLine => k_is)
    (case xt_BadLine => k_is)
    (case xi_BadLine => k_is)
    (case xv_BadLine => k_is)
    (case xg_BadLine => k_is)
    (case xh_BadLine => k_is)
    (case xd_BadLine => k_is)
    (case xa_BadLine => k_is)
    (case xm_BadLine => k_is)
    (case g_BadShares => k_is)
    (case xx_BadShares => k_exc)
    (case xk_BadShares => k_is)
    (case xb_BadShares => k_is)
    (case xt_BadShares => k_is)
    (case xi_BadShares => k_is)
    (case xv_BadShares => k_is)
    (case xg_BadShares => k_is)
    (case xh_BadShares => k_is)
    (case xd_BadShares => k_is)
    (case xa_BadShares => k_is)
    (case xm_BadShares => k_is)
    (case g_BadSign => k_is)
    (case xx_BadSign => k_exc)
    (case xk_BadSign => k_is)
    (case xb_BadSign => k_is)
    (case xt_BadSign => k_is)
    (case xi_BadSign => k_is)
    (case xv_BadSign => k_is)
    (case xg_BadSign => k_is)
    (case xh_BadSign => k_is)
    (case xd_BadSign => k_is)
    (case xa_BadSign => k_is)
    (case xm_BadSign => k_is)
    (case g_Loose => k_is)
    (case xx_Loose => k_exc)
    (case xk_Loose => k_is)
    (case xb_Loose => k_is)
    (case xt_Loose => k_is)
    (case xi_Loose => k_is)
    (case xv_Loose => k_is)
    (case xg_Loose => k_is)
    (case xh_Loose => k_is)
    (case xd_Loose => k_is)
    (case xa_Loose => k_is)
    (case xm_Loose => k_is)
    (case g_PackError => k_is)
    (case xx_PackError => k_exc)
    (case xk_PackError => k_is)
    (case xb_PackError => k_is)
    (case xt_PackError => k_is)
    (case xi_PackError => k_is)
    (case xv_PackError => k_is)
    (case xg_PackError => k_is)
    (case xh_PackError => k_is)
    (case xd_PackError => k_is)
    (case xa_PackError => k_is)
    (case xm_PackError => k_is)
    (case g_Short => k_is)
    (case xx_Short => k_exc)
    (case xk_Short => k_is)
    (case xb_Short => k_is)
    (case xt_Short => k_is)
    (case xi_Short => k_is)
    (case xv_Short => k_is)
    (case xg_Short => k_is)
    (case xh_Short => k_is)
    (case xd_Short => k_is)
    (case xa_Short => k_is)
    (case xm_Short => k_is)
    (case xn => k_is)
    (case xtk => k_is)
    (case s_BadBit_BadBit => first | k_is | rfl | kernel_rfl)
    (case s_BadBit_BadBook => first | k_is | rfl | kernel_rfl)
    (case s_BadBit_BadCount => first | k_is | rfl | kernel_rfl)
    (case s_BadBit_BadLine => first | k_is | rfl | kernel_rfl)
    (case s_BadBit_BadShares => first | k_is | rfl | kernel_rfl)
    (case s_BadBit_BadSign => first | k_is | rfl | kernel_rfl)
    (case s_BadBit_Loose => first | k_is | rfl | kernel_rfl)
    (case s_BadBit_PackError => first | k_is | rfl | kernel_rfl)
    (case s_BadBit_Short => first | k_is | rfl | kernel_rfl)
    (case s_BadCount_BadBit => first | k_is | rfl | kernel_rfl)
    (case s_BadCount_BadBook => first | k_is | rfl | kernel_rfl)
    (case s_BadCount_BadCount => first | k_is | rfl | kernel_rfl)
    (case s_BadCount_BadLine => first | k_is | rfl | kernel_rfl)
    (case s_BadCount_BadShares => first | k_is | rfl | kernel_rfl)
    (case s_BadCount_BadSign => first | k_is | rfl | kernel_rfl)
    (case s_BadCount_Loose => first | k_is | rfl | kernel_rfl)
    (case s_BadCount_PackError => first | k_is | rfl | kernel_rfl)
    (case s_BadCount_Short => first | k_is | rfl | kernel_rfl)
    (case s_BadSign_BadBit => first | k_is | rfl | kernel_rfl)
    (case s_BadSign_BadBook => first | k_is | rfl | kernel_rfl)
    (case s_BadSign_BadCount => first | k_is | rfl | kernel_rfl)
    (case s_BadSign_BadLine => first | k_is | rfl | kernel_rfl)
    (case s_BadSign_BadShares => first | k_is | rfl | kernel_rfl)
    (case s_BadSign_BadSign => first | k_is | rfl | kernel_rfl)
    (case s_BadSign_Loose => first | k_is | rfl | kernel_rfl)
    (case s_BadSign_PackError => first | k_is | rfl | kernel_rfl)
    (case s_BadSign_Short => first | k_is | rfl | kernel_rfl)
    (case s_Loose_BadBit => first | k_is | rfl | kernel_rfl)
    (case s_Loose_BadBook => first | k_is | rfl | kernel_rfl)
    (case s_Loose_BadCount => first | k_is | rfl | kernel_rfl)
    (case s_Loose_BadLine => first | k_is | rfl | kernel_rfl)
    (case s_Loose_BadShares => first | k_is | rfl | kernel_rfl)
    (case s_Loose_BadSign => first | k_is | rfl | kernel_rfl)
    (case s_Loose_Loose => first | k_is | rfl | kernel_rfl)
    (case s_Loose_PackError => first | k_is | rfl | kernel_rfl)
    (case s_Loose_Short => first | k_is | rfl | kernel_rfl)
    (case s_Short_BadBit => first | k_is | rfl | kernel_rfl)
    (case s_Short_BadBook => first | k_is | rfl | kernel_rfl)
    (case s_Short_BadCount => first | k_is | rfl | kernel_rfl)
    (case s_Short_BadLine => first | k_is | rfl | kernel_rfl)
    (case s_Short_BadShares => first | k_is | rfl | kernel_rfl)
    (case s_Short_BadSign => first | k_is | rfl | kernel_rfl)
    (case s_Short_Loose => first | k_is | rfl | kernel_rfl)
    (case s_Short_PackError => first | k_is | rfl | kernel_rfl)
    (case s_Short_Short => first | k_is | rfl | kernel_rfl)
    (case a_whole => k_is)
    (case l_whole => k_is)
    (case c_whole => k_is)
    (case k_whole => k_is)
    (case a_whole_row => k_is)
    (case l_whole_row => k_is)
    (case c_whole_row => k_is)
    (case k_whole_row => k_is)
    (case a_need_shares => k_is)
    (case l_need_shares => k_is)
    (case c_need_shares => k_is)
    (case k_need_shares => k_is)
    (case a_counted => k_is)
    (case l_counted => k_is)
    (case c_counted => k_is)
    (case k_counted => k_is)
    (case a_halved => k_is)
    (case l_halved => k_is)
    (case c_halved => k_is)
    (case k_halved => k_is)
    (case a_learnt => k_is)
    (case l_learnt => k_is)
    (case c_learnt => k_is)
    (case k_learnt => k_is)
    (case a_pairs => k_is)
    (case l_pairs => k_is)
    (case c_pairs => k_is)
    (case k_pairs => k_is)
    (case a_codes => k_is)
    (case l_codes => k_is)
    (case c_codes => k_is)
    (case k_codes => k_is)
    (case a_need_signs => k_is)
    (case l_need_signs => k_is)
    (case c_need_signs => k_is)
    (case k_need_signs => k_is)
    (case a_Learner_init => k_is)
    (case i_Learner_init => k_is)
    (case l_Learner_init => k_is)
    (case c_Learner_init => k_is)
    (case k_Learner_init => k_is)
    (case a_Learner_took => k_is)
    (case i_Learner_took => k_is)
    (case l_Learner_took => k_is)
    (case c_Learner_took => k_is)
    (case k_Learner_took => k_is)
    (case a_Learner_copied => k_is)
    (case i_Learner_copied => k_is)
    (case l_Learner_copied => k_is)
    (case c_Learner_copied => k_is)
    (case k_Learner_copied => k_is)
    (case a_Packer_init => k_is)
    (case i_Packer_init => k_is)
    (case l_Packer_init => k_is)
    (case c_Packer_init => k_is)
    (case k_Packer_init => k_is)
    (case a_Packer_put => k_is)
    (case i_Packer_put => k_is)
    (case l_Packer_put => k_is)
    (case c_Packer_put => k_is)
    (case k_Packer_put => k_is)
    (case a_Unpacker_init => k_is)
    (case i_Unpacker_init => k_is)
    (case l_Unpacker_init => k_is)
    (case c_Unpacker_init => k_is)
    (case k_Unpacker_init => k_is)
    (case a_Unpacker_put => k_is)
    (case i_Unpacker_put => k_is)
    (case l_Unpacker_put => k_is)
    (case c_Unpacker_put => k_is)
    (case k_Unpacker_put => k_is)
    (case a_pack => k_is)
    (case l_pack => k_is)
    (case c_pack => k_is)
    (case k_pack => k_is)
    (case a_unpack => k_is)
    (case l_unpack => k_is)
    (case c_unpack => k_is)
    (case k_unpack => k_is)
    (case a_good_signs => k_is)
    (case l_good_signs => k_is)
    (case c_good_signs => k_is)
    (case k_good_signs => k_is)
    (case a_Book_init => k_is)
    (case i_Book_init => k_is)
    (case l_Book_init => k_is)
    (case c_Book_init => k_is)
    (case k_Book_init => k_is)
    (case a_report => k_is)
    (case l_report => k_is)
    (case c_report => k_is)
    (case k_report => k_is)
    (case a_written => k_is)
    (case l_written => k_is)
    (case c_written => k_is)
    (case k_written => k_is)
    (case a_law_cell_at => k_is)
    (case l_law_cell_at => k_is)
    (case c_law_cell_at => k_is)
    (case k_law_cell_at => k_is)
    (case a_law_many_by => k_is)
    (case l_law_many_by => k_is)
    (case c_law_many_by => k_is)
    (case k_law_many_by => k_is)
    (case a_law_signs_by => k_is)
    (case l_law_signs_by => k_is)
    (case c_law_signs_by => k_is)
    (case k_law_signs_by => k_is)
    (case a_law_text_by => k_is)
    (case l_law_text_by => k_is)
    (case c_law_text_by => k_is)
    (case k_law_text_by => k_is)
    (case a_law_book_by => k_is)
    (case l_law_book_by => k_is)
    (case c_law_book_by => k_is)
    (case k_law_book_by => k_is)
    (case a_law_kinds => k_is)
    (case l_law_kinds => k_is)
    (case c_law_kinds => k_is)
    (case k_law_kinds => k_is)
    (case a_law_told => k_is)
    (case l_law_told => k_is)
    (case c_law_told => k_is)
    (case k_law_told => k_is)
    (case a_law_count_drawn => k_is)
    (case l_law_count_drawn => k_is)
    (case c_law_count_drawn => k_is)
    (case k_law_count_drawn => k_is)
    (case a_law_count_due => k_is)
    (case l_law_count_due => k_is)
    (case c_law_count_due => k_is)
    (case k_law_count_due => k_is)
    (case a_law_put_in => k_is)
    (case l_law_put_in => k_is)
    (case c_law_put_in => k_is)
    (case k_law_put_in => k_is)
    (case a_law_stands => k_is)
    (case l_law_stands => k_is)
    (case c_law_stands => k_is)
    (case k_law_stands => k_is)
    (case a_law_goes_on => k_is)
    (case l_law_goes_on => k_is)
    (case c_law_goes_on => k_is)
    (case k_law_goes_on => k_is)
    (case a_law => k_is)
    (case l_law => k_is)
    (case c_law => k_is)
    (case k_law => k_is)
    (case cc_law_goes_on => first | rfl | k_is)
    (case lc_law_goes_on => first | k_is | rfl | kernel_rfl)
    (case v11_law_goes_on => first | rfl | k_is)
    (case hT_law_goes_on => exact PySem.W.km_tabs_of Y _ (by first | k_mem | decide))
    (case nT_law_goes_on => first | k_is | rfl | kernel_rfl)
    (case hh_law_goes_on => first | kernel_rfl | k_is)
    (case cc_law => first | rfl | k_is)
    (case lc_law => first | k_is | rfl | kernel_rfl)
    (case v11_law => first | rfl | k_is)
    (case hT_law => exact PySem.W.km_tabs_of Y _ (by first | k_mem | decide))
    (case nT_law => first | k_is | rfl | kernel_rfl)
    (case hh_law => first | kernel_rfl | k_is)
    (case nP => decide)
    (case n_ValueError => k_is)
    (case n_bool => k_is)
    (case n_enumerate => k_is)
    (case n_int => k_is)
    (case n_isinstance => k_is)
    (case n_len => k_is)
    (case n_list => k_is)
    (case n_max => k_is)
    (case n_ord => k_is)
    (case n_range => k_is)
    (case n_reversed => k_is)
    (case n_sorted => k_is)
    (case n_str => k_is)
    (case n_sum => k_is)
    (case n_zip => k_is)
    (case c_MOST_CAP => k_is)
    (case c_MOST_SHARE => k_is)
    (case c_MOST_SIGNS => k_is)
    (case c_MOST_SIZE => k_is)
    (case c_MOST_TEXT => k_is)
#print axioms PySem.Challenge.cw_sharepack_k10_refused_bits_holds

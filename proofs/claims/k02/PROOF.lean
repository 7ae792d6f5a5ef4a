import PyProof.Rows.All
import Wide.All
import OpenK.AllK
import Wide.FinOn
import HandS.CallRecv
import HandS.Codes
import HandS.FStr
import HandS.ForMost
import HandS.IsInst
import HandS.Replace
import HandS.RevRange
import HandS.SortRule
import HandS.Walk
import PySem.Challenge.RW_sharepack_k02_signs_counted
set_option Elab.async false
set_option linter.all false
set_option maxRecDepth 100000
set_option maxHeartbeats 4000000
/-! ## Rules over HandS -/
namespace Sp
open PySem PySem.Spec PyProof.Rows L2
/-! ### the rules again, their readings over K by name -/
section
variable {X : Cx} {K : PySem.W.Frag}
theorem ix_listK (hK : X.K = K := by rfl) : IxR X (rIxL K) := by subst hK; exact ix_list
theorem ix_tupK (hK : X.K = K := by rfl) : IxR X (rIxT K) := by subst hK; exact ix_tup
theorem op_inK (hK : X.K = K := by rfl) : OpR X (compareOp .In) (rIn K false) := by subst hK; exact op_in_seq
theorem op_notInK (hK : X.K = K := by rfl) : OpR X (compareOp .NotIn) (rIn K true) := by subst hK; exact op_notIn_seq
theorem op_eqDK (hu : X.A.units + 64 < cLine) (hK : X.K = K := by rfl) : OpR X (compareOp .Eq) (rEqD K) := by subst hK; exact op_eqD hu
theorem op_neDK (hu : X.A.units + 64 < cLine) (hK : X.K = K := by rfl) : OpR X (compareOp .NotEq) (rNeD K) := by subst hK; exact op_neD hu
theorem op_ltTK (hu : X.A.units < cLine) (hK : X.K = K := by rfl) : OpR X (compareOp .Lt) (rLtT K) := by subst hK; exact op_ltT hu
def rSeqLen (K : PySem.W.Frag) : List V → Hp → VK → Prop := fun xs H Q => ∃ p ys, xs = [.ref p] ∧ (SqL K H p ys ∨ SqT K H p ys) ∧ Q (.int ys.length) H
def rListOf (K : PySem.W.Frag) : List V → Hp → VK → Prop := fun xs H Q => ∃ p ys, xs = [.ref p] ∧ (SqL K H p ys ∨ SqT K H p ys) ∧ ∀ l, H l = none → Q (.ref l) (upd H l (.lst ys))
theorem call_lenK (hK : X.K = K := by rfl) : CallR X (.builtin "len") (rSeqLen K) := by subst hK; exact call_len_seq
theorem call_listK (hK : X.K = K := by rfl) : CallR X (.type "list") (rListOf K) := by subst hK; exact call_list_of
def rTupleOf (K : PySem.W.Frag) : List V → Hp → VK → Prop := fun xs H Q => ∃ p ys, xs = [.ref p] ∧ ((SqL K H p ys ∧ ∀ l, H l = none → Q (.ref l) (upd H l (.tup ys))) ∨ (SqT K H p ys ∧ Q (.ref p) H))
theorem call_tupleK (hK : X.K = K := by rfl) : CallR X (.type "tuple") (rTupleOf K) := by subst hK; exact call_tuple_of
theorem cr_sumK (hc : X.calm = true) (hK : X.K = K := by rfl) : CallR X (.builtin "sum") (rSum K) := by subst hK; exact cr_sum hc
theorem cr_maxK (hc : X.calm = true) (hK : X.K = K := by rfl) : CallR X (.builtin "max") (rMax K) := by subst hK; exact cr_max hc
theorem cr_minK (hc : X.calm = true) (hK : X.K = K := by rfl) : CallR X (.builtin "min") (rMin K) := by subst hK; exact cr_min hc
theorem call_isiK0 (hK : X.K = K := by rfl) : CallR X (.builtin "isinstance") (rIsi K) := by subst hK; exact call_isi
theorem cr_sortedK (hK : X.K = K := by rfl) : CallR X (.builtin "sorted") (rSortedPO K) := by subst hK; exact cr_sortedPO
theorem sl_listK (hK : X.K = K := by rfl) : SlR X (rSlL K) := by subst hK; exact sl_list
theorem sl_tupK (hK : X.K = K := by rfl) : SlR X (rSlT K) := by subst hK; exact sl_tup
theorem mt_indexK (hK : X.K = K := by rfl) : MtR X "list.index" (rIndex K) := by subst hK; exact mt_index
def rJoin (K : PySem.W.Frag) : V → List V → Hp → VK → Prop := fun x xs H Q => ∃ a p, ∃ ys : List Str, x = .str a ∧ xs = [.ref p] ∧ (SqL K H p (ys.map V.str) ∨ SqT K H p (ys.map V.str)) ∧ (ys.map (·.length)).sum + ys.length * a.length ≤ 16777216 ∧ Q (.str (Txt.join a ys)) H
theorem mt_joinK (hK : X.K = K := by rfl) : MtR X "str.join" (rJoin K) := by subst hK; exact mt_join
theorem pi_listK {tg l : Expr} {tl : TE} (hl : PE X l tl) (hK : X.K = K := by rfl) : PI X tg l (iList K tl) := by subst hK; exact pi_list hl
theorem pi_tupK {tg l : Expr} {tl : TE} (hl : PE X l tl) (hK : X.K = K := by rfl) : PI X tg l (iTup K tl) := by subst hK; exact pi_tup hl
theorem pi_zipK {e e2 : Expr} {ta : TA} {p pos tpos : Pos} {elts : List Expr} {kk : Nat} (hg : Gl X "zip") (hm : X.mg "zip" = none) (ha : PA X [e, e2] ta) (hK : X.K = K := by rfl) (hs : starEach [e, e2] X.env = (false, eval e X.env) :: starEach [e2] X.env := by rfl) (hs2 : (backTo pos (starEach [e2] X.env)).any (·.1) = false := by rfl) :
    PI X (.Tuple elts kk tpos) (.Call (.Name "zip" p) [e, e2] [] pos) (iZip K ta) := by subst hK; exact pi_zip hg hm ha hs hs2
theorem pi_enumK {e : Expr} {ta : TA} {p pos tpos : Pos} {elts : List Expr} {kk : Nat} (hg : Gl X "enumerate") (hm : X.mg "enumerate" = none) (ha : PA X [e] ta) (hK : X.K = K := by rfl) (hs : starEach [e] X.env = [(false, eval e X.env)] := by rfl) :
    PI X (.Tuple elts kk tpos) (.Call (.Name "enumerate" p) [e] [] pos) (iEnum K ta) := by subst hK; exact pi_enum hg hm ha hs
theorem pg_tupK {es : List Expr} {k : Nat} {t : TGs} {n : Nat} {pos : Pos} (hc : X.calm = true) (h : PGs X es t) (hK : X.K = K := by rfl) (hn : (assignEach es X.env).length = n := by rfl) (hst : (assignEach es X.env).findIdx? (·.1) = none := by rfl) : PG X (.Tuple es k pos) (gTup K n t) := by subst hK; exact pg_tup hc h hn hst
theorem pe_fldK {e : Expr} {f : Str} {pos : Pos} {ta : TE} (he : PE X e ta) (hK : X.K = K := by rfl) (hb : attributeBase e f X.env (eval e X.env) = eval e X.env := by rfl) : PE X (.Attribute e f pos) (tFld K ta f) := by subst hK; exact pe_fld he hb
theorem ps_fldK {o value : Expr} {f : Str} {pos pos' : Pos} {ta tv : TE} (ha : PE X o ta) (hv : PE X value tv) (hK : X.K = K := by rfl) (hs : swapsWith value (some (.Attribute o f pos')) pos.line X.env = pure false := by rfl) : PS X (.Assign [.Attribute o f pos'] value pos) (sFld K ta tv f) := by subst hK; exact ps_fld ha hv hs
theorem pe_bm0K {o : Expr} {to : TE} {name : Str} {apos cpos : Pos} {T id : String} {r : V → List V → Hp → VK → Prop} (pa : PlainAttrs T) (slot : Slot T name id) (hty : typeOf (.builtin id) = pure (.type "method_descriptor")) (hm : MtR X id r) (ho : PE X o to) (hK : X.K = K := by rfl)
    (hbase : attributeBase o name X.env (eval o X.env) = eval o X.env := by rfl) (hline : (apos.endLine == cpos.line) = true := by rfl) : PE X (.Call (.Attribute o name apos) [] [] cpos) (tBM0 K T r to) := by subst hK; exact pe_bm0 pa slot hty hm ho hbase hline
theorem pe_bmK {o e : Expr} {es : List Expr} {to : TE} {t : TA} {name : Str} {apos cpos : Pos} {T id : String} {r : V → List V → Hp → VK → Prop} (pa : PlainAttrs T) (slot : Slot T name id) (hty : typeOf (.builtin id) = pure (.type "method_descriptor")) (hm : MtR X id r) (ho : PE X o to) (ha : PA X (e :: es) t) (hK : X.K = K := by rfl)
    (hbase : attributeBase o name X.env (eval o X.env) = eval o X.env := by rfl)
    (hfew : ((backTo cpos (starEach (e :: es) X.env)).all (fun x => !x.1) && (backToKw cpos (keywordEach [] X.env)).all (fun x => x.1.isSome)
      && decide ((e :: es).length + ([] : List Keyword).length + (if ([] : List Keyword).isEmpty then 0 else 1) < 30)) = true := by rfl)
    (hline : (apos.endLine == cpos.line) = true := by rfl) (hs : starEach (e :: es) X.env = (false, eval e X.env) :: starEach es X.env := by rfl) (hplain : (backTo cpos (starEach es X.env)).any (·.1) = false := by rfl) :
    PE X (.Call (.Attribute o name apos) (e :: es) [] cpos) (tBM K T r to t) := by subst hK; exact pe_bm pa slot hty hm ho ha hbase hfew hline hs hplain
end
end Sp
/-! ## The walk's steps: one lemma a reading, so that a reading is walked by apply -/
namespace Sp
open PySem L2
section
variable {K : PySem.W.Frag} {σ : L2.St} {H H1 : Hp} {ta tb tc te : TE} {x y v : V} {Q : VK} {D : Ends} {t u : TS} {c d : TT} {r : R2}
theorem w_var {i : Nat} (h : σ[i]? = some (some v)) (q : Q v H) : tVar i σ H Q := ⟨v, h, q⟩
theorem w_c (q : Q v H) : tC v σ H Q := q
theorem w_op (h : ta σ H fun x H1 => tb σ H1 fun y H2 => r x y H2 Q) : tOp r ta tb σ H Q := h
theorem w_un {r : V → Hp → VK → Prop} (h : ta σ H fun x H1 => r x H1 Q) : tUn r ta σ H Q := h
theorem w_neg {g : Int → V} {i : Int} (q : Q (g i) H) : rU g (.int i) H Q := ⟨i, rfl, q⟩
theorem w_I0 {g : Int → Int → V} {i j : Int} (q : Q (g i j) H) : rI0 g (.int i) (.int j) H Q := ⟨i, j, rfl, rfl, q⟩
theorem w_I {C : Int → Int → Prop} {g : Int → Int → V} {i j : Int} (h : C i j) (q : Q (g i j) H) : rI C g (.int i) (.int j) H Q := ⟨i, j, rfl, rfl, h, q⟩
theorem w_eq (h : scal x y = true) (q : Q (.bl (decide (x = y))) H) : rEq x y H Q := ⟨h, q⟩
theorem w_ne (h : scal x y = true) (q : Q (.bl (!decide (x = y))) H) : rNe x y H Q := ⟨h, q⟩
theorem w_addS {P : Str → Str → Prop} {i j : Str} (h : i.length + j.length ≤ sizeLine) (q : P i j) : ∃ i' j', V.str i = .str i' ∧ V.str j = .str j' ∧ i'.length + j'.length ≤ sizeLine ∧ P i' j' := ⟨i, j, rfl, rfl, h, q⟩
theorem w_rfl {x : V} {P : Prop} (q : P) : x = x ∧ P := ⟨rfl, q⟩
theorem w_inS {P : Nat → Str → Prop} {c : Nat} {z : Str} (q : P c z) : ∃ c' z', V.str ⟨#[c]⟩ = .str ⟨#[c']⟩ ∧ V.str z = .str z' ∧ P c' z' := ⟨c, z, rfl, rfl, q⟩
theorem w_ints2 {P : Int → Int → Prop} {i j : Int} (q : P i j) : ∃ i' j', [V.int i, V.int j] = [.int i', .int j'] ∧ P i' j' := ⟨i, j, rfl, q⟩
theorem w_ord {P : Str → Prop} {z : Str} (h : z.length = 1) (q : P z) : ∃ z', [V.str z] = [.str z'] ∧ z'.length = 1 ∧ P z' := ⟨z, rfl, h, q⟩
theorem w_strI {P : Int → Prop} {i : Int} (h : i.natAbs.log2 < 1920) (q : P i) : ∃ i', [V.int i] = [.int i'] ∧ i'.natAbs.log2 < 1920 ∧ P i' := ⟨i, rfl, h, q⟩
theorem w_int1 {P : Int → Prop} {R : Bool → Prop} {i : Int} (q : P i) : (∃ i', [V.int i] = [.int i'] ∧ P i') ∨ ∃ k, [V.int i] = [.bl k] ∧ R k := .inl ⟨i, rfl, q⟩
theorem w_int1b {P : Int → Prop} {R : Bool → Prop} {k : Bool} (q : R k) : (∃ i', [V.bl k] = [.int i'] ∧ P i') ∨ ∃ k', [V.bl k] = [.bl k'] ∧ R k' := .inr ⟨k, rfl, q⟩
theorem w_chain {r r' : R2} (h : ta σ H fun x H1 => tb σ H1 fun y H2 => r x y H2 fun z H3 => ∃ k, z = .bl k ∧ (if k = true then tc σ H3 fun w' H4 => r' y w' H4 Q else Q (.bl false) H3)) : tChain r r' ta tb tc σ H Q := h
theorem w_andV (h : ta σ H fun x H1 => ∃ c, x = .bl c ∧ if c = true then tb σ H1 Q else Q (.bl false) H1) : tAndV ta tb σ H Q := h
theorem w_orV (h : ta σ H fun x H1 => ∃ c, x = .bl c ∧ if c = true then Q (.bl true) H1 else tb σ H1 Q) : tOrV ta tb σ H Q := h
theorem w_notV (h : ta σ H fun x H1 => ∃ c, x = .bl c ∧ Q (.bl (!c)) H1) : tNotV ta σ H Q := h
theorem w_test {Q : Bool → Hp → Prop} (h : ta σ H fun x H' => ∃ k, x = .bl k ∧ Q k H') : tTest ta σ H Q := h
theorem w_B {Q : Bool → Hp → Prop} (h : ta σ H fun x H' => ∃ k, x = .bl k ∧ Q k H') : tB ta σ H Q := h
theorem w_and {Q : Bool → Hp → Prop} (h : c σ H fun k H1 => if k = true then d σ H1 Q else Q false H1) : tAnd c d σ H Q := h
theorem w_or {Q : Bool → Hp → Prop} (h : c σ H fun k H1 => if k = true then Q true H1 else d σ H1 Q) : tOr c d σ H Q := h
theorem w_not {Q : Bool → Hp → Prop} (h : c σ H fun k H1 => Q (!k) H1) : tNot c σ H Q := h
theorem w_bl {P : Bool → Prop} {b : Bool} (q : P b) : ∃ k, V.bl b = V.bl k ∧ P k := ⟨b, rfl, q⟩
theorem w_if {A B : TE} (h : c σ H fun k H1 => if k = true then A σ H1 Q else B σ H1 Q) : tIf c A B σ H Q := h
theorem w_nil {Q : List V → Hp → Prop} (q : Q [] H) : tNil σ H Q := q
theorem w_cons {tr : TA} {Q : List V → Hp → Prop} (h : ta σ H fun x H1 => tr σ H1 fun xs H2 => Q (x :: xs) H2) : tCons ta tr σ H Q := h
theorem w_tup {a : TA} (h : a σ H fun xs H1 => xs.length ≤ sizeLine ∧ ∀ p, H1 p = none → Q (.ref p) (upd H1 p (.tup xs))) : tTup a σ H Q := h
theorem w_lst {a : TA} (h : a σ H fun xs H1 => xs.length ≤ sizeLine ∧ ∀ p, H1 p = none → Q (.ref p) (upd H1 p (.lst xs))) : tLst a σ H Q := h
theorem w_call {sp : L2.Sp} {E : XK} {a : TA} (h : a σ H fun vs H1 => sp vs H1 Q E) : tCall sp [] E a σ H Q :=
  cast (congrArg (fun (k : List V → Hp → Prop) => a σ H k) (funext fun vs => funext fun H1 => by show sp vs H1 Q E = sp (vs ++ []) H1 Q E; rw [List.append_nil])) h
theorem w_cb {r : List V → Hp → VK → Prop} {a : TA} (h : a σ H fun vs H1 => r vs H1 Q) : tCB r a σ H Q := h
theorem w_fld {f : Str} (h : ta σ H fun x H1 => ∃ a C dx fs v, x = .ref a ∧ H1 a = some (.ins C dx fs) ∧ Cls K C ∧ NoAttr K C f ∧ fs.lookup f = some v ∧ Q v H1) : tFld K ta f σ H Q := h
theorem w_fld1 {f : Str} {P : Addr → Addr → Addr → List (Str × V) → V → Prop} {a C dx : Addr} {fs : List (Str × V)} (h : H a = some (.ins C dx fs)) (c : Cls K C) (n : NoAttr K C f) (l : fs.lookup f = some v) (q : P a C dx fs v) :
    ∃ a' C dx fs v, V.ref a = .ref a' ∧ H a' = some (.ins C dx fs) ∧ Cls K C ∧ NoAttr K C f ∧ fs.lookup f = some v ∧ P a' C dx fs v := ⟨a, C, dx, fs, v, rfl, h, c, n, l, q⟩
theorem w_asg {i : Nat} (h : te σ H fun x H1 => D.nx (σ.set i (some x)) H1) : tAsg te (gName i) D σ H := h
theorem w_asgG {g : TG} (h : te σ H fun x H1 => g x σ H1 D.nx) : tAsg te g D σ H := h
theorem w_gname {i : Nat} {Q : L2.St → Hp → Prop} (q : Q (σ.set i (some v)) H) : gName i v σ H Q := q
theorem w_ret (h : te σ H D.rt) : tRet te D σ H := h
theorem w_retN (h : D.rt .non H) : tRetN D σ H := h
theorem w_seq (h : t { D with nx := u D } σ H) : tSeq t u D σ H := h
theorem w_next (h : D.nx σ H) : tNext D σ H := h
theorem w_brk (h : D.bk σ H) : tBreak D σ H := h
theorem w_cont (h : D.ct σ H) : tCont D σ H := h
theorem w_drop (h : te σ H fun _ H1 => D.nx σ H1) : tDrop te D σ H := h
theorem w_ifS (h : c σ H fun b H1 => if b = true then t D σ H1 else u D σ H1) : tIfS c t u D σ H := h
theorem w_iteT {A B : Prop} (q : A) : if true = true then A else B := by rw [if_pos rfl]; exact q
theorem w_iteF {A B : Prop} (q : B) : if false = true then A else B := by rw [if_neg Bool.false_ne_true]; exact q
theorem w_iteNF {A B : Prop} (q : A) : if (!false) = true then A else B := by rw [Bool.not_false, if_pos rfl]; exact q
theorem w_iteNT {A B : Prop} (q : B) : if (!true) = true then A else B := by rw [Bool.not_true, if_neg Bool.false_ne_true]; exact q
theorem w_ite {p A B : Prop} [Decidable p] (h1 : p → A) (h2 : ¬ p → B) : if decide p = true then A else B := by
  by_cases h : p
  · rw [if_pos (decide_eq_true h)]; exact h1 h
  · rw [if_neg (by rw [decide_eq_false h]; exact Bool.false_ne_true)]; exact h2 h
theorem w_iteN {p A B : Prop} [Decidable p] (h1 : ¬ p → A) (h2 : p → B) : if (!decide p) = true then A else B := by
  by_cases h : p
  · rw [decide_eq_true h]; exact w_iteF (h2 h)
  · rw [decide_eq_false h]; exact w_iteT (h1 h)
theorem w_iteB {b : Bool} {A B : Prop} (h1 : b = true → A) (h2 : b = false → B) : if b = true then A else B := by
  cases b with
  | true => exact w_iteT (h1 rfl)
  | false => exact w_iteF (h2 rfl)
theorem w_iteK {b : Bool} {A B : Prop} (h : b = true) (q : A) : if b = true then A else B := by rw [h]; exact w_iteT q
theorem w_iteKF {b : Bool} {A B : Prop} (h : b = false) (q : B) : if b = true then A else B := by rw [h]; exact w_iteF q
theorem w_ixL {p : Addr} {xs : List V} {i : Int} (h : SqL K H p xs) (ha : atI xs i = some v) (q : Q v H) : rIxL K (.ref p) (.int i) H Q := ⟨p, xs, i, v, rfl, rfl, h, ha, q⟩
theorem w_ixT {p : Addr} {xs : List V} {i : Int} (h : SqT K H p xs) (ha : atI xs i = some v) (q : Q v H) : rIxT K (.ref p) (.int i) H Q := ⟨p, xs, i, v, rfl, rfl, h, ha, q⟩
theorem w_ixS {z : Str} {i : Int} {c : Nat} (h : z.length ≤ sizeLine) (ha : atI z.cps.toList i = some c) (q : Q (.str ⟨#[c]⟩) H) : rIxS (.str z) (.int i) H Q := ⟨z, i, c, rfl, rfl, h, ha, q⟩
theorem w_lenS {P : Addr → List V → Prop} {p : Addr} {ys : List V} (h : SqL K H p ys) (q : P p ys) : ∃ p' ys', [V.ref p] = [.ref p'] ∧ (SqL K H p' ys' ∨ SqT K H p' ys') ∧ P p' ys' := ⟨p, ys, rfl, .inl h, q⟩
theorem w_lenK {p : Addr} {ys : List V} (h : SqL K H p ys) (q : Q (.int ys.length) H) : rSeqLen K [.ref p] H Q := ⟨p, ys, rfl, .inl h, q⟩
theorem w_listK {p : Addr} {ys : List V} (h : SqL K H p ys) (q : ∀ l, H l = none → Q (.ref l) (upd H l (.lst ys))) : rListOf K [.ref p] H Q := ⟨p, ys, rfl, .inl h, q⟩
theorem w_lenU {P : Addr → List V → Prop} {p : Addr} {ys : List V} (h : SqT K H p ys) (q : P p ys) : ∃ p' ys', [V.ref p] = [.ref p'] ∧ (SqL K H p' ys' ∨ SqT K H p' ys') ∧ P p' ys' := ⟨p, ys, rfl, .inr h, q⟩
theorem w_lenT {P : Str → Prop} {z : Str} (h : z.length ≤ sizeLine) (q : P z) : ∃ z', [V.str z] = [.str z'] ∧ z'.length ≤ sizeLine ∧ P z' := ⟨z, rfl, h, q⟩
theorem w_sl {r : V → Option Int → Option Int → Hp → VK → Prop} {tl th : TO} (h : te σ H fun x H1 => tl σ H1 fun l H2 => th σ H2 fun u H3 => r x l u H3 Q) : tSl r te tl th σ H Q := h
theorem w_nopart {Q : Option Int → Hp → Prop} (q : Q none H) : tNoPart σ H Q := q
theorem w_part {Q : Option Int → Hp → Prop} (h : ta σ H fun x H1 => ∃ i, x = .int i ∧ Q (some i) H1) : tPart ta σ H Q := h
theorem w_new {o : HO} (h : ∀ p H1, Same H H1 → H p = none → H1 p = some o → Q (.ref p) H1) : ∀ p, H p = none → Q (.ref p) (upd H p o) := fun p hp =>
  h p _ (fun a u e => by rw [upd_ne (ne_of_none e hp)]; exact e) hp upd_same
theorem w_newB {o : HO} {R : Addr → Hp → Prop} (h : ∀ p H1, Same H H1 → H p = none → H1 p = some o → R p H1) : ∀ p, H p = none → R p (upd H p o) := fun p hp =>
  h p _ (fun a u e => by rw [upd_ne (ne_of_none e hp)]; exact e) hp upd_same
theorem w_int {P : Int → Prop} {i : Int} (q : P i) : ∃ j, V.int i = .int j ∧ P j := ⟨i, rfl, q⟩
theorem w_bm {T : String} {r : V → List V → Hp → VK → Prop} {a : TA} (h : te σ H fun x H1 => tyV K T x H1 ∧ a σ H1 fun xs H2 => r x xs H2 Q) : tBM K T r te a σ H Q := h
theorem w_bm0 {T : String} {r : V → List V → Hp → VK → Prop} (h : te σ H fun x H1 => tyV K T x H1 ∧ r x [] H1 Q) : tBM0 K T r te σ H Q := h
theorem w_sfld {tv : TE} {f : Str} (h : tv σ H fun y H1 => ta σ H1 fun x H2 => ∃ a C dx fs, x = .ref a ∧ H2 a = some (.ins C dx fs) ∧ Cls K C ∧ NoAttr K C f ∧ fs.length < 1000 ∧ D.nx σ (upd H2 a (.ins C dx (putF f y fs)))) : sFld K ta tv f D σ H := h
theorem w_isi {x c : V} {t u : Value} {b : Bool} (h1 : ClsV c u) (h2 : TyX K H x t) (h3 : PySem.W.kitOne K t u = some b) (q : Q (.bl b) H) : rIsi K [x, c] H Q := ⟨x, c, t, u, b, rfl, h1, h2, h3, q⟩
theorem w_sum {a : Addr} {ns : List Int} (h : SqL K H a (ns.map V.int)) (q : Q (.int ns.sum) H) : rSum K [.ref a] H Q := ⟨a, ns, rfl, h, q⟩
end
theorem w_iteI {a b : Int} {A B : Prop} (h1 : a = b → A) (h2 : a ≠ b → B) : if decide (V.int a = V.int b) = true then A else B := w_ite (fun h => h1 (V.int.inj h)) fun h => h2 fun e => h (congrArg V.int e)
theorem w_iteNI {a b : Int} {A B : Prop} (h1 : a ≠ b → A) (h2 : a = b → B) : if (!decide (V.int a = V.int b)) = true then A else B := w_iteN (fun h => h1 fun e => h (congrArg V.int e)) fun h => h2 (V.int.inj h)
theorem w_iteS {a b : Str} {A B : Prop} (h1 : a = b → A) (h2 : a ≠ b → B) : if decide (V.str a = V.str b) = true then A else B := w_ite (fun h => h1 (V.str.inj h)) fun h => h2 fun e => h (congrArg V.str e)
theorem w_iteNS {a b : Str} {A B : Prop} (h1 : a ≠ b → A) (h2 : a = b → B) : if (!decide (V.str a = V.str b)) = true then A else B := w_iteN (fun h => h1 fun e => h (congrArg V.str e)) fun h => h2 (V.str.inj h)
theorem w_isiT {x : V} {t T : String} {b : Bool} (h : TyX K H x (.type t)) (hk : kitB t T = some b) (q : Q (.bl b) H) : rIsi K [x, .ty T] H Q := ⟨x, .ty T, .type t, .type T, b, rfl, .ty T, h, kit_ty hk, q⟩
theorem isi_int_int {i : Int} (q : Q (.bl true) H) : rIsi K [.int i, .ty "int"] H Q := w_isiT (.base (.int i)) (b := true) (by decide +kernel) q
theorem isi_int_bool {i : Int} (q : Q (.bl false) H) : rIsi K [.int i, .ty "bool"] H Q := w_isiT (.base (.int i)) (b := false) (by decide +kernel) q
theorem isi_int_str {i : Int} (q : Q (.bl false) H) : rIsi K [.int i, .ty "str"] H Q := w_isiT (.base (.int i)) (b := false) (by decide +kernel) q
theorem isi_int_list {i : Int} (q : Q (.bl false) H) : rIsi K [.int i, .ty "list"] H Q := w_isiT (.base (.int i)) (b := false) (by decide +kernel) q
theorem isi_int_tuple {i : Int} (q : Q (.bl false) H) : rIsi K [.int i, .ty "tuple"] H Q := w_isiT (.base (.int i)) (b := false) (by decide +kernel) q
theorem isi_bl_int {b : Bool} (q : Q (.bl true) H) : rIsi K [.bl b, .ty "int"] H Q := w_isiT (.base (.bl b)) (b := true) (by decide +kernel) q
theorem isi_bl_bool {b : Bool} (q : Q (.bl true) H) : rIsi K [.bl b, .ty "bool"] H Q := w_isiT (.base (.bl b)) (b := true) (by decide +kernel) q
theorem isi_bl_str {b : Bool} (q : Q (.bl false) H) : rIsi K [.bl b, .ty "str"] H Q := w_isiT (.base (.bl b)) (b := false) (by decide +kernel) q
theorem isi_bl_list {b : Bool} (q : Q (.bl false) H) : rIsi K [.bl b, .ty "list"] H Q := w_isiT (.base (.bl b)) (b := false) (by decide +kernel) q
theorem isi_bl_tuple {b : Bool} (q : Q (.bl false) H) : rIsi K [.bl b, .ty "tuple"] H Q := w_isiT (.base (.bl b)) (b := false) (by decide +kernel) q
theorem isi_non_int  (q : Q (.bl false) H) : rIsi K [.non, .ty "int"] H Q := w_isiT (.base (.non)) (b := false) (by decide +kernel) q
theorem isi_non_bool  (q : Q (.bl false) H) : rIsi K [.non, .ty "bool"] H Q := w_isiT (.base (.non)) (b := false) (by decide +kernel) q
theorem isi_non_str  (q : Q (.bl false) H) : rIsi K [.non, .ty "str"] H Q := w_isiT (.base (.non)) (b := false) (by decide +kernel) q
theorem isi_non_list  (q : Q (.bl false) H) : rIsi K [.non, .ty "list"] H Q := w_isiT (.base (.non)) (b := false) (by decide +kernel) q
theorem isi_non_tuple  (q : Q (.bl false) H) : rIsi K [.non, .ty "tuple"] H Q := w_isiT (.base (.non)) (b := false) (by decide +kernel) q
theorem isi_str_int {z : Str} (q : Q (.bl false) H) : rIsi K [.str z, .ty "int"] H Q := w_isiT (.base (.str z)) (b := false) (by decide +kernel) q
theorem isi_str_bool {z : Str} (q : Q (.bl false) H) : rIsi K [.str z, .ty "bool"] H Q := w_isiT (.base (.str z)) (b := false) (by decide +kernel) q
theorem isi_str_str {z : Str} (q : Q (.bl true) H) : rIsi K [.str z, .ty "str"] H Q := w_isiT (.base (.str z)) (b := true) (by decide +kernel) q
theorem isi_str_list {z : Str} (q : Q (.bl false) H) : rIsi K [.str z, .ty "list"] H Q := w_isiT (.base (.str z)) (b := false) (by decide +kernel) q
theorem isi_str_tuple {z : Str} (q : Q (.bl false) H) : rIsi K [.str z, .ty "tuple"] H Q := w_isiT (.base (.str z)) (b := false) (by decide +kernel) q
theorem isi_lst_int {a : Addr} {xs : List V} (h : H a = some (.lst xs)) (q : Q (.bl false) H) : rIsi K [.ref a, .ty "int"] H Q := w_isiT (.base (.lst h)) (b := false) (by decide +kernel) q
theorem isi_lst_bool {a : Addr} {xs : List V} (h : H a = some (.lst xs)) (q : Q (.bl false) H) : rIsi K [.ref a, .ty "bool"] H Q := w_isiT (.base (.lst h)) (b := false) (by decide +kernel) q
theorem isi_lst_str {a : Addr} {xs : List V} (h : H a = some (.lst xs)) (q : Q (.bl false) H) : rIsi K [.ref a, .ty "str"] H Q := w_isiT (.base (.lst h)) (b := false) (by decide +kernel) q
theorem isi_lst_list {a : Addr} {xs : List V} (h : H a = some (.lst xs)) (q : Q (.bl true) H) : rIsi K [.ref a, .ty "list"] H Q := w_isiT (.base (.lst h)) (b := true) (by decide +kernel) q
theorem isi_lst_tuple {a : Addr} {xs : List V} (h : H a = some (.lst xs)) (q : Q (.bl false) H) : rIsi K [.ref a, .ty "tuple"] H Q := w_isiT (.base (.lst h)) (b := false) (by decide +kernel) q
theorem isi_tup_int {a : Addr} {xs : List V} (h : H a = some (.tup xs)) (q : Q (.bl false) H) : rIsi K [.ref a, .ty "int"] H Q := w_isiT (.base (.tup h)) (b := false) (by decide +kernel) q
theorem isi_tup_bool {a : Addr} {xs : List V} (h : H a = some (.tup xs)) (q : Q (.bl false) H) : rIsi K [.ref a, .ty "bool"] H Q := w_isiT (.base (.tup h)) (b := false) (by decide +kernel) q
theorem isi_tup_str {a : Addr} {xs : List V} (h : H a = some (.tup xs)) (q : Q (.bl false) H) : rIsi K [.ref a, .ty "str"] H Q := w_isiT (.base (.tup h)) (b := false) (by decide +kernel) q
theorem isi_tup_list {a : Addr} {xs : List V} (h : H a = some (.tup xs)) (q : Q (.bl false) H) : rIsi K [.ref a, .ty "list"] H Q := w_isiT (.base (.tup h)) (b := false) (by decide +kernel) q
theorem isi_tup_tuple {a : Addr} {xs : List V} (h : H a = some (.tup xs)) (q : Q (.bl true) H) : rIsi K [.ref a, .ty "tuple"] H Q := w_isiT (.base (.tup h)) (b := true) (by decide +kernel) q
theorem w_while {W : Nat → L2.St → Hp → Prop} {m0 : Nat} (h0 : W m0 σ H) (hs : ∀ m σ H, W m σ H → c σ H fun b H1 => if b = true then ∃ N : L2.St → Hp → Prop, (∀ σ' H', N σ' H' → ∃ m', m' < m ∧ W m' σ' H') ∧ t { D with nx := N, ct := N, bk := D.nx } σ H1 else D.nx σ H1) : tWhile c t D σ H := ⟨W, ⟨m0, h0⟩, hs⟩
theorem w_N {m : Nat} {W : Nat → L2.St → Hp → Prop} {R : (L2.St → Hp → Prop) → Prop} (q : R fun σ' H' => ∃ m', m' < m ∧ W m' σ' H') : ∃ N : L2.St → Hp → Prop, (∀ σ' H', N σ' H' → ∃ m', m' < m ∧ W m' σ' H') ∧ R N := ⟨_, fun _ _ h => h, q⟩
theorem w_for {wi : TI} {g : TG} (h : wi σ H fun J H1 => ∃ W : Nat → Nat → L2.St → Hp → Prop, (∃ m, W 0 m σ H1) ∧ ∀ i m σ H, W i m σ H →
  (J.stop i H ∧ D.nx σ H) ∨ (J.go i H ∧ ∃ N : L2.St → Hp → Prop, (∀ σ' H', N σ' H' → ∃ m', m' < m ∧ W (i + 1) m' σ' H') ∧ ∀ x H', J.yld i H x H' → g x σ H' fun σ2 H2 => t { D with nx := N, ct := N, bk := D.nx } σ2 H2)) : tFor wi g t D σ H := h
theorem w_lc {wi : TI} {g : TG} {vs : List Nat} (h : wi σ H fun J H1 => ∀ D, H1 D = none → ∃ W : Nat → Nat → Hp → Prop, (∃ m, W 0 m (upd H1 D (.lst []))) ∧ ∀ i m H, W i m H →
  (J.stop i H ∧ Q (.ref D) H) ∨ (J.go i H ∧ ∃ Nx : Hp → Prop, (∀ H', Nx H' → ∃ m', m' < m ∧ W (i + 1) m' H') ∧ ∀ x H', J.yld i H x H' → g x (wipe σ vs) H' fun σ2 H2 => wipe σ2 vs = wipe σ vs ∧ c σ2 H2 fun b H3 =>
    if b = true then te σ2 H3 fun y H4 => ∃ acc, H4 D = some (.lst acc) ∧ acc.length < sizeLine ∧ Nx (upd H4 D (.lst (acc ++ [y]))) else Nx H3)) : tLc wi g c te vs σ H Q := h
theorem w_iList {R : It → Hp → Prop} (h : ta σ H fun x H1 => ∃ a, x = .ref a ∧ (∃ xs, SqL K H1 a xs) ∧ R (Itl K a) H1) : iList K ta σ H R := h
theorem w_itL {R : Addr → Prop} {a : Addr} {xs : List V} (h : SqL K H a xs) (q : R a) : ∃ a', V.ref a = .ref a' ∧ (∃ xs, SqL K H a' xs) ∧ R a' := ⟨a, rfl, ⟨xs, h⟩, q⟩
theorem w_iStr {R : It → Hp → Prop} (h : ta σ H fun v H1 => ∃ x, v = .str x ∧ R (Its x) H1) : iStr ta σ H R := h
theorem w_str {R : Str → Prop} {z : Str} (q : R z) : ∃ z', V.str z = .str z' ∧ R z' := ⟨z, rfl, q⟩
theorem w_iRng1 {a : TA} {R : It → Hp → Prop} (h : a σ H fun vs H1 => ∃ j : Int, vs = [.int j] ∧ -(2 ^ 62) ≤ j ∧ j < 2 ^ 62 ∧ R (Itr 0 j.toNat) H1) : iRng1 a σ H R := h
theorem w_rng1 {R : Int → Prop} {j : Int} (h1 : -(2 ^ 62) ≤ j) (h2 : j < 2 ^ 62) (q : R j) : ∃ j' : Int, [V.int j] = [.int j'] ∧ -(2 ^ 62) ≤ j' ∧ j' < 2 ^ 62 ∧ R j' := ⟨j, rfl, h1, h2, q⟩
theorem w_iZip {a : TA} {R : It → Hp → Prop} (h : a σ H fun vs H1 => ∃ a b xs ys, vs = [.ref a, .ref b] ∧ SqL K H1 a xs ∧ SqL K H1 b ys ∧ R (Itz K a b) H1) : iZip K a σ H R := h
theorem w_zip {R : Addr → Addr → Prop} {a b : Addr} {xs ys : List V} (h1 : SqL K H a xs) (h2 : SqL K H b ys) (q : R a b) : ∃ a' b' xs ys, [V.ref a, V.ref b] = [.ref a', .ref b'] ∧ SqL K H a' xs ∧ SqL K H b' ys ∧ R a' b' := ⟨a, b, xs, ys, rfl, h1, h2, q⟩
theorem w_iEnum {a : TA} {R : It → Hp → Prop} (h : a σ H fun vs H1 => ∃ a xs, vs = [.ref a] ∧ SqL K H1 a xs ∧ R (Ite K a) H1) : iEnum K a σ H R := h
theorem w_enum {R : Addr → Prop} {a : Addr} {xs : List V} (h1 : SqL K H a xs) (q : R a) : ∃ a' xs, [V.ref a] = [.ref a'] ∧ SqL K H a' xs ∧ R a' := ⟨a, xs, rfl, h1, q⟩
theorem w_gTup {n : Nat} {ts : TGs} {R : L2.St → Hp → Prop} {a : Addr} {xs : List V} (h : SqT K H a xs) (hl : xs.length = n) (q : ts xs σ H R) : gTup K n ts (.ref a) σ H R := ⟨a, xs, rfl, h, hl, q⟩
theorem w_gCons {g : TG} {ts : TGs} {R : L2.St → Hp → Prop} {xs : List V} (q : g x σ H fun σ' H' => ts xs σ' H' R) : gCons g ts (x :: xs) σ H R := ⟨x, xs, rfl, q⟩
theorem w_gNil {R : L2.St → Hp → Prop} (q : R σ H) : gNil [] σ H R := ⟨rfl, q⟩
theorem w_app {l : Addr} {xs : List V} (h : H l = some (.lst xs)) (hl : xs.length < sizeLine) (q : Q .non (upd H l (.lst (xs ++ [y])))) : rAppend (.ref l) [y] H Q := ⟨l, xs, y, rfl, rfl, h, hl, q⟩
theorem w_tyL {xs : List V} {a : Addr} {R : Prop} (h : H a = some (.lst xs)) (q : R) : tyV K "list" (.ref a) H ∧ R := ⟨.inl ⟨rfl, _, SqL.of h⟩, q⟩
theorem w_tyS {z : Str} {R : Prop} (q : R) : tyV K "str" (.str z) H ∧ R := ⟨rfl, q⟩
theorem w_gSub {ts : TSet} {R : L2.St → Hp → Prop} (h : ta σ H fun o H1 => tb σ H1 fun i H2 => ts o i v H2 fun H3 => R σ H3) : gSub ta tb ts v σ H R := h
theorem w_setL {R : Hp → Prop} {p : Addr} {xs : List V} {j : Nat} (h : H p = some (.lst xs)) (hj : j < xs.length) (q : R (upd H p (.lst (xs.set j v)))) : rSetL (.ref p) (.int (j : Int)) v H R :=
  ⟨p, xs, (j : Int), j, rfl, rfl, h, (by unfold ixN; rw [if_pos (Int.natCast_nonneg j), if_pos (by omega), Int.toNat_natCast]), q⟩
theorem w_slL {a : Addr} {xs : List V} {lo hi : Option Int} (h : SqL K H a xs) (q : ∀ p, H p = none → Q (.ref p) (upd H p (.lst (cutV xs lo hi)))) : rSlL K (.ref a) lo hi H Q := ⟨a, xs, rfl, h, q⟩
theorem w_slS {z : Str} {lo hi : Option Int} (h : z.length ≤ sizeLine) (q : Q (.str (cutS z lo hi)) H) : rSlS (.str z) lo hi H Q := ⟨z, rfl, h, q⟩
theorem w_in {R : R2} {neg : Bool} {p : Addr} {xs : List V} (h : SqL K H p xs) (hx : flatV x = true) (ha : xs.all flatV = true) (q : Q (.bl (if neg then !inV x xs else inV x xs)) H) : rIn K neg x (.ref p) H Q := ⟨p, xs, rfl, .inl h, hx, ha, q⟩
theorem w_start {t : TS} {D : Ends} {σ σ' : L2.St} {H : Hp} (e : σ = σ') (h : t D σ' H) : t D σ H := by rw [e]; exact h
theorem hu64 {k : Nat} {A : Around} (hr : Room k A) : A.units + 64 < cLine := hr.units
theorem hu0 {k : Nat} {A : Around} (hr : Room k A) : A.units < cLine := hr.units0
/-- a statement, then the rest, with a word between them: what follows is shown once -/
def tCut (t u : TS) : TS := fun D σ H => ∃ Mid : L2.St → Hp → Prop, t { D with nx := Mid } σ H ∧ ∀ σ' H', Mid σ' H' → u D σ' H'
theorem pss_cut {X : Cx} {st : Stmt} {rest : List Stmt} {t u : TS} (h1 : PS X st t) (h2 : PSs X rest u) : PSs X (st :: rest) (tCut t u) := by
  refine ⟨fun pins s σ H D I h => ?_⟩
  obtain ⟨Mid, hm, hu⟩ := h
  refine wpAny_execs_cons (thn (h1.run pins s σ H { D with nx := Mid } I hm) fun f s1 q => ?_)
  cases f with
  | next =>
    obtain ⟨σ', H', I', q⟩ := q
    exact h2.run pins s1 σ' H' D I' (hu σ' H' q)
  | ret v => exact q
  | brk => exact q
  | cont => exact q
theorem w_cut {t u : TS} {D : Ends} {σ : L2.St} {H : Hp} (M : L2.St → Hp → Prop) (h : t { D with nx := M } σ H) (k : ∀ σ' H', M σ' H' → u D σ' H') : tCut t u D σ H := ⟨M, h, k⟩
/-! ### loops -/
theorem walk_range0 {n : Nat} : Walk (Itr 0 n) n (fun _ => True) (fun i H x H' => H' = H ∧ x = .int (i : Int)) :=
  ⟨fun _ _ hi _ => hi, fun _ _ => Nat.le_refl _, fun i H x H' _ _ y => ⟨y.1, by rw [y.2, Int.zero_add]⟩⟩
theorem take_succ {α : Type} {l : List α} {i : Nat} {x : α} (h : l[i]? = some x) : l.take (i + 1) = l.take i ++ [x] := by
  rw [List.take_add_one, h]
  rfl
theorem same_new0 {H : Hp} {p : Addr} {o : HO} (h : H p = none) : Same H (upd H p o) := fun a u e => by
  rw [upd_ne (ne_of_none e h)]
  exact e
theorem same_mut0 {H H' : Hp} {p : Addr} {o : HO} (e : Same H H') (h : H p = none) : Same H (upd H' p o) := fun a u ha => by
  rw [upd_ne (ne_of_none ha h)]
  exact e a u ha
/-- a comprehension whose elements are ys, each a value told ahead; what was tracked stands -/
theorem lc_pure {J : It} {n : Nat} {G : Hp → Prop} {Y : Nat → Hp → V → Hp → Prop} (w : Walk J n G Y) {g : TG} {te : TE} {vs : List Nat} {σ : L2.St} {H1 : Hp} {Qd : Addr → Hp → Prop} (ys : List V) (hn : ys.length = n) (hz : n ≤ sizeLine) (hG : ∀ H', Same H1 H' → G H')
    (hs : ∀ i x y H H' (R : VK), i < n → ys[i]? = some y → Same H1 H → Y i H x H' → (∀ H4, Same H H4 → R y H4) → g x (wipe σ vs) H' fun σ2 H2 => wipe σ2 vs = wipe σ vs ∧ te σ2 H2 R)
    (hd : ∀ D H', Same H1 H' → H1 D = none → H' D = some (.lst ys) → Qd D H') :
    ∀ D, H1 D = none → ∃ W : Nat → Nat → Hp → Prop, (∃ m, W 0 m (upd H1 D (.lst []))) ∧ ∀ i m H, W i m H →
      (J.stop i H ∧ Qd D H) ∨ (J.go i H ∧ ∃ Nx : Hp → Prop, (∀ H', Nx H' → ∃ m', m' < m ∧ W (i + 1) m' H') ∧ ∀ x H', J.yld i H x H' → g x (wipe σ vs) H' fun σ2 H2 => wipe σ2 vs = wipe σ vs ∧ tYes σ2 H2 fun b H3 =>
        if b = true then te σ2 H3 fun y H4 => ∃ acc, H4 D = some (.lst acc) ∧ acc.length < sizeLine ∧ Nx (upd H4 D (.lst (acc ++ [y]))) else Nx H3) := by
  intro D hD
  refine lc_it w (Qd := Qd D) (fun i H => Same H1 H ∧ H D = some (.lst (ys.take i))) ⟨same_new0 hD, upd_same⟩ (fun i H _ p => hG H p.1) (fun i x H H' hi p y => ?_) (fun H p => hd D H p.1 hD (by rw [p.2, ← hn, List.take_length]))
  have hyi : ys[i]? = some (ys[i]'(by omega)) := List.getElem?_eq_getElem _
  have step := hs i x _ H H' (fun y H4 => ∃ acc, H4 D = some (.lst acc) ∧ acc.length < sizeLine ∧ (Same H1 (upd H4 D (.lst (acc ++ [y]))) ∧ (upd H4 D (.lst (acc ++ [y]))) D = some (.lst (ys.take (i + 1))))) hi hyi p.1 y
    (fun H4 s4 => ⟨ys.take i, s4 _ _ p.2, by rw [List.length_take]; omega, same_mut0 (p.1.trans s4) hD, by rw [take_succ hyi]; exact upd_same⟩)
  exact step
/-- the same with a test: ks tells for each whether it is kept -/
theorem lc_kept {J : It} {n : Nat} {G : Hp → Prop} {Y : Nat → Hp → V → Hp → Prop} (w : Walk J n G Y) {g : TG} {tt : TT} {te : TE} {vs : List Nat} {σ : L2.St} {H1 : Hp} {Qd : Addr → Hp → Prop} (ys : List V) (kp : V → Bool) (hn : ys.length = n) (hz : n ≤ sizeLine) (hG : ∀ H', Same H1 H' → G H')
    (hs : ∀ i x y H H' (R : Bool → Hp → Prop), i < n → ys[i]? = some y → Same H1 H → Y i H x H' → (∀ H4, Same H H4 → R (kp y) H4) → g x (wipe σ vs) H' fun σ2 H2 => wipe σ2 vs = wipe σ vs ∧ tt σ2 H2 R ∧ ∀ H3 (R : VK), Same H H3 → (∀ H4, Same H3 H4 → R y H4) → te σ2 H3 R)
    (hm : ∀ (x : V) (H' : Hp) (Rs : L2.St → Hp → Prop) (Rt : L2.St → Hp → Prop), (∀ σ2 H2, Rs σ2 H2 → Rt σ2 H2) → g x (wipe σ vs) H' Rs → g x (wipe σ vs) H' Rt)
    (ht : ∀ σ2 H2 (R R' : Bool → Hp → Prop), (∀ b H3, R b H3 → R' b H3) → tt σ2 H2 R → tt σ2 H2 R')
    (hd : ∀ D H', Same H1 H' → H1 D = none → H' D = some (.lst (ys.filter kp)) → Qd D H') :
    ∀ D, H1 D = none → ∃ W : Nat → Nat → Hp → Prop, (∃ m, W 0 m (upd H1 D (.lst []))) ∧ ∀ i m H, W i m H →
      (J.stop i H ∧ Qd D H) ∨ (J.go i H ∧ ∃ Nx : Hp → Prop, (∀ H', Nx H' → ∃ m', m' < m ∧ W (i + 1) m' H') ∧ ∀ x H', J.yld i H x H' → g x (wipe σ vs) H' fun σ2 H2 => wipe σ2 vs = wipe σ vs ∧ tt σ2 H2 fun b H3 =>
        if b = true then te σ2 H3 fun y H4 => ∃ acc, H4 D = some (.lst acc) ∧ acc.length < sizeLine ∧ Nx (upd H4 D (.lst (acc ++ [y]))) else Nx H3) := by
  intro D hD
  refine lc_it w (Qd := Qd D) (fun i H => Same H1 H ∧ H D = some (.lst ((ys.take i).filter kp))) ⟨same_new0 hD, upd_same⟩ (fun i H _ p => hG H p.1) (fun i x H H' hi p y => ?_) (fun H p => hd D H p.1 hD (by rw [p.2, ← hn, List.take_length]))
  have hyi : ys[i]? = some (ys[i]'(by omega)) := List.getElem?_eq_getElem _
  have step := hs i x _ H H' (fun b H4 => b = kp (ys[i]'(by omega)) ∧ Same H H4) hi hyi p.1 y (fun H4 s4 => ⟨rfl, s4⟩)
  refine hm x H' _ _ (fun σ2 H2 q => ?_) step
  obtain ⟨q1, q2, q3⟩ := q
  refine ⟨q1, ht σ2 H2 _ _ (fun b H3 r => ?_) q2⟩
  obtain ⟨rb, r3⟩ := r
  have tk : ys.take (i + 1) = ys.take i ++ [ys[i]'(by omega)] := take_succ hyi
  cases b with
  | true =>
    refine w_iteT (q3 H3 _ r3 fun H4 s4 => ⟨(ys.take i).filter kp, s4 _ _ (r3 _ _ p.2), ?_, same_mut0 ((p.1.trans r3).trans s4) hD, ?_⟩)
    · have := List.length_filter_le kp (ys.take i)
      rw [List.length_take] at this
      omega
    · rw [tk, List.filter_append, List.filter_cons_of_pos rb.symm]
      exact upd_same
  | false =>
    refine w_iteF ⟨p.1.trans r3, ?_⟩
    rw [tk, List.filter_append, List.filter_cons_of_neg (by rw [← rb]; exact Bool.false_ne_true), List.filter_nil, List.append_nil]
    exact r3 _ _ p.2
/-- a heap's later look -/
theorem Same.at {H H' : Hp} {a : Addr} {o : HO} (s : Same H H') (h : H a = some o) : H' a = some o := s a o h
theorem same_new {H : Hp} {p : Addr} {o : HO} (h : H p = none) : Same H (upd H p o) := fun a u e => by
  rw [upd_ne (ne_of_none e h)]
  exact e
theorem Same.new {H H' : Hp} {p : Addr} {o : HO} (s : Same H H') (h : H' p = none) : Same H (upd H' p o) := s.trans (same_new h)
theorem Same.mut {H H' : Hp} {p : Addr} {o : HO} (e : Same H H') (h : H p = none) : Same H (upd H' p o) := fun a u ha => by
  rw [upd_ne (ne_of_none ha h)]
  exact e a u ha
theorem Same.tup {K : PySem.W.Frag} {H H' : Hp} {a : Addr} {xs : List V} (e : Same H H') (h : SqT K H a xs) : SqT K H' a xs := by
  rcases h with (h | ⟨o, h⟩) | h
  · exact .inl (.inl (e _ _ h))
  · exact .inl (.inr ⟨o, e _ _ h⟩)
  · exact .inr h
end Sp
/-! ## What the defs compute, in plain Lean -/
namespace Sp
open PySem L2
/-- a cell of the script -/
def cellAt (ns : List Int) (k : Int) : Int := if k < (ns.length : Int) then ns.getD k.toNat 0 else 0
def shareBy (c : Int) : Int := if c % 5 = 1 then 1 + c / 5 % 1000000000000 else if c % 5 = 2 then 1 + c / 5 % 3 else 1 + c / 5 % 40
def manyBy (c : Int) : Int := if c / 6 % 5 = 1 then 1 + c / 30 % 40 else 1 + c % 6
theorem atI_int {ns : List Int} {k : Int} (h0 : 0 ≤ k) (h : k < (ns.length : Int)) : atI (ns.map V.int) k = some (.int (ns.getD k.toNat 0)) := by
  obtain ⟨n, rfl⟩ := Int.eq_ofNat_of_zero_le h0
  have hn : n < ns.length := by omega
  refine atI_nat ?_
  rw [List.getElem?_map, List.getElem?_eq_getElem hn]
  show some (V.int _) = some (V.int _)
  rw [Int.toNat_natCast, List.getD_eq_getElem?_getD, List.getElem?_eq_getElem hn]
  rfl
/-- what the program calls a whole number within bounds -/
def wholeV (x : V) (lo hi : Int) : Bool := match x with
  | .int i => decide (lo ≤ i) && decide (i ≤ hi)
  | _ => false
/-- a value of the kinds that are handed in -/
def Kd (H : Hp) (x : V) : Prop := match x with
  | .int _ => True
  | .bl _ => True
  | .non => True
  | .str _ => True
  | .ref a => (∃ xs, H a = some (.lst xs)) ∨ ∃ xs, H a = some (.tup xs)
  | _ => False
abbrev mostShare : Int := 1000000000000
def rowOk (xs : List V) (least : Int) : Bool := xs.all fun y => wholeV y least mostShare
theorem rowOk_ints {ns : List Int} {least : Int} (h : ∀ n ∈ ns, least ≤ n ∧ n ≤ mostShare) : rowOk (ns.map V.int) least = true := by
  unfold rowOk
  rw [List.all_eq_true]
  intro y hy
  obtain ⟨n, hn, rfl⟩ := List.mem_map.mp hy
  obtain ⟨h1, h2⟩ := h n hn
  simp only [wholeV, decide_eq_true h1, decide_eq_true h2, Bool.and_self]
/-- shares that are handed in as they should be -/
structure Good (ns : List Int) : Prop where
  pos : 1 ≤ ns.length
  few : ns.length ≤ 40
  each : ∀ n ∈ ns, 1 ≤ n ∧ n ≤ mostShare
def halvedL (xs : List Int) : List Int := xs.map fun x => x - x / 2
def shrink : Nat → Int → List Int → List Int
  | 0, _, xs => xs
  | n + 1, cap, xs => if cap < xs.sum then shrink n cap (halvedL xs) else xs
def addL (xs ys : List Int) : List Int := List.zipWith (fun x y => x + y) xs ys
def learntL (xs ys : List Int) (cap : Int) : List Int := shrink (addL xs ys).sum.toNat cap (addL xs ys)
theorem halved_sum_le : ∀ xs : List Int, (∀ x ∈ xs, 1 ≤ x) → (halvedL xs).sum ≤ xs.sum ∧ ((halvedL xs).sum = xs.sum → xs.sum = xs.length)
  | [], _ => ⟨Int.le_refl _, fun _ => rfl⟩
  | x :: xs, h => by
    obtain ⟨h1, h2⟩ := halved_sum_le xs fun y hy => h y (List.mem_cons_of_mem _ hy)
    have hx := h x List.mem_cons_self
    have e : (halvedL (x :: xs)).sum = (x - x / 2) + (halvedL xs).sum := by show ((x - x / 2) :: halvedL xs).sum = _; rw [List.sum_cons]
    rw [e, List.sum_cons, List.length_cons]
    refine ⟨by omega, fun q => ?_⟩
    have q1 : (halvedL xs).sum = xs.sum := by omega
    have := h2 q1
    omega
theorem halved_less {xs : List Int} {cap : Int} (h : ∀ x ∈ xs, 1 ≤ x) (hc : (xs.length : Int) ≤ cap) (hs : cap < xs.sum) : (halvedL xs).sum < xs.sum := by
  obtain ⟨h1, h2⟩ := halved_sum_le xs h
  rcases Int.lt_or_eq_of_le h1 with q | q
  · exact q
  · have := h2 q
    omega
theorem halved_pos {xs : List Int} (h : ∀ x ∈ xs, 1 ≤ x) : ∀ x ∈ halvedL xs, 1 ≤ x := fun x hx => by
  obtain ⟨y, hy, rfl⟩ := List.mem_map.mp hx
  have := h y hy
  omega
theorem halved_length (xs : List Int) : (halvedL xs).length = xs.length := List.length_map _
theorem sum_nonneg : ∀ {xs : List Int}, (∀ x ∈ xs, 1 ≤ x) → (xs.length : Int) ≤ xs.sum
  | [], _ => Int.le_refl _
  | x :: xs, h => by
    have h1 := sum_nonneg fun y hy => h y (List.mem_cons_of_mem _ hy)
    have h2 := h x List.mem_cons_self
    rw [List.sum_cons, List.length_cons]
    omega
/-- one turn of the loop, told by the sum as the measure -/
theorem shrink_turn {n : Nat} {cap : Int} {xs : List Int} (h : ∀ x ∈ xs, 1 ≤ x) (hc : (xs.length : Int) ≤ cap) (hs : cap < xs.sum) (hn : xs.sum.toNat ≤ n) : ∃ m, shrink n cap xs = shrink m cap (halvedL xs) ∧ (halvedL xs).sum.toNat ≤ m ∧ (halvedL xs).sum.toNat < xs.sum.toNat := by
  have l := halved_less h hc hs
  have p := sum_nonneg (halved_pos h)
  cases n with
  | zero => omega
  | succ m =>
    refine ⟨m, ?_, by omega, by omega⟩
    show (if cap < xs.sum then shrink m cap (halvedL xs) else xs) = _
    rw [if_pos hs]
theorem shrink_done {n : Nat} {cap : Int} {xs : List Int} (hs : ¬ cap < xs.sum) : shrink n cap xs = xs := by
  cases n with
  | zero => rfl
  | succ m =>
    show (if cap < xs.sum then shrink m cap (halvedL xs) else xs) = _
    rw [if_neg hs]
theorem addL_length {xs ys : List Int} (h : ys.length = xs.length) : (addL xs ys).length = xs.length := by
  unfold addL
  rw [List.length_zipWith, h, Nat.min_self]
theorem addL_get {xs ys : List Int} {i : Nat} {z : Int} (h : (addL xs ys)[i]? = some z) : ∃ x y, xs[i]? = some x ∧ ys[i]? = some y ∧ z = x + y := by
  unfold addL at h
  rw [List.getElem?_zipWith] at h
  cases hx : xs[i]? with
  | none => rw [hx] at h; cases h
  | some x =>
    cases hy : ys[i]? with
    | none => rw [hx, hy] at h; cases h
    | some y => rw [hx, hy] at h; exact ⟨x, y, rfl, rfl, (Option.some.inj h).symm⟩
theorem addL_pos {xs ys : List Int} (hx : ∀ x ∈ xs, 1 ≤ x) (hy : ∀ y ∈ ys, 0 ≤ y) : ∀ z ∈ addL xs ys, 1 ≤ z := fun z hz => by
  obtain ⟨i, hi, e⟩ := List.getElem_of_mem hz
  obtain ⟨x, y, h1, h2, rfl⟩ := addL_get (i := i) (z := z) (by rw [List.getElem?_eq_getElem hi, e])
  have := hx x (List.mem_of_getElem? h1)
  have := hy y (List.mem_of_getElem? h2)
  omega
/-- ints read off a list of them -/
theorem map_int {ns : List Int} {i : Nat} {x : V} (h : (ns.map V.int)[i]? = some x) : ∃ n, ns[i]? = some n ∧ x = .int n := by
  rw [List.getElem?_map] at h
  cases e : ns[i]? with
  | none => rw [e] at h; cases h
  | some n => rw [e] at h; exact ⟨n, rfl, (Option.some.inj h).symm⟩
theorem map_str {ns : List Str} {i : Nat} {x : V} (h : (ns.map V.str)[i]? = some x) : ∃ n, ns[i]? = some n ∧ x = .str n := by
  rw [List.getElem?_map] at h
  cases e : ns[i]? with
  | none => rw [e] at h; cases h
  | some n => rw [e] at h; exact ⟨n, rfl, (Option.some.inj h).symm⟩
theorem int_inj {a b : List Int} (h : a.map V.int = b.map V.int) : a = b := by
  have := congrArg (List.map fun v => match v with | V.int i => i | _ => 0) h
  simpa [List.map_map, Function.comp_def] using this
theorem manyBy_bounds (c : Int) : 1 ≤ manyBy c ∧ manyBy c ≤ 40 := by
  unfold manyBy
  split <;> omega
theorem shareBy_bounds (c : Int) : 1 ≤ shareBy c ∧ shareBy c ≤ mostShare := by
  unfold shareBy mostShare
  split
  · omega
  · split <;> omega
/-- n numbers, each by its place -/
def rowBy (n : Int) (f : Nat → Int) : List Int := (List.range n.toNat).map f
theorem rowBy_length (n : Int) (f : Nat → Int) : (rowBy n f).length = n.toNat := by simp [rowBy]
theorem rowBy_get {n : Int} {f : Nat → Int} {i : Nat} {z : Int} (h : (rowBy n f)[i]? = some z) : z = f i ∧ i < n.toNat := by
  unfold rowBy at h
  rw [List.getElem?_map] at h
  by_cases hi : i < n.toNat
  · rw [List.getElem?_range hi] at h
    exact ⟨(Option.some.inj h).symm, hi⟩
  · rw [List.getElem?_eq_none (by simpa using hi)] at h
    cases h
theorem rowBy_mem {n : Int} {f : Nat → Int} {z : Int} (h : z ∈ rowBy n f) : ∃ i, z = f i ∧ i < n.toNat := by
  obtain ⟨i, hi, e⟩ := List.getElem_of_mem h
  exact ⟨i, rowBy_get (by rw [List.getElem?_eq_getElem hi, e])⟩
end Sp
/-! ## Texts, as lists of signs -/
namespace Sp
open PySem L2
abbrev S (l : List Nat) : Str := SX.S l
section
variable {K : PySem.W.Frag} {σ : L2.St} {H H1 : Hp} {ta tb te : TE} {x y v : V} {Q : VK}
theorem S_cat (a b : List Nat) : S a ++ S b = S (a ++ b) := SX.S_cat a b
theorem S_len (a : List Nat) : (S a).length = a.length := SX.S_len a
theorem S_get {l : List Nat} {i : Nat} : (S l).cps[i]? = l[i]? := by
  show l.toArray[i]? = l[i]?
  exact List.getElem?_toArray
theorem walk_S {l : List Nat} : Walk (Its (S l)) l.length (fun _ => True) (fun i H v H' => H' = H ∧ ∃ c, l[i]? = some c ∧ v = .str (S [c])) :=
  ⟨fun i _ hi _ => by show i < (S l).cps.size; rw [show (S l).cps.size = l.length from S_len l]; exact hi, fun _ _ => by show (S l).cps.size ≤ l.length; rw [show (S l).cps.size = l.length from S_len l]; exact Nat.le_refl _,
    fun i H v H' _ _ y => by obtain ⟨e, c, hc, hv⟩ := y; exact ⟨e, c, by rw [S_get] at hc; exact hc, hv⟩⟩
theorem w_lenX {P : Str → Prop} {l : List Nat} (h : l.length ≤ sizeLine) (q : P (S l)) : ∃ z', [V.str (S l)] = [.str z'] ∧ z'.length ≤ sizeLine ∧ P z' := ⟨S l, rfl, by rw [S_len]; exact h, q⟩
theorem w_addX {P : Str → Str → Prop} {a b : List Nat} (h : a.length + b.length ≤ sizeLine) (q : P (S a) (S b)) : ∃ i' j', V.str (S a) = .str i' ∧ V.str (S b) = .str j' ∧ i'.length + j'.length ≤ sizeLine ∧ P i' j' := ⟨S a, S b, rfl, rfl, by rw [S_len, S_len]; exact h, q⟩
theorem w_ixX {l : List Nat} {i : Nat} {c : Nat} (h : l.length ≤ sizeLine) (ha : l[i]? = some c) (q : Q (.str (S [c])) H) : rIxS (.str (S l)) (.int (i : Int)) H Q := ⟨S l, i, c, rfl, rfl, by rw [S_len]; exact h, atI_nat ha, q⟩
theorem w_two {P : Str → Str → Prop} {z s : Str} (q : P z s) : ∃ a b, V.str z = .str a ∧ [V.str s] = [.str b] ∧ P a b := ⟨z, s, rfl, rfl, q⟩
theorem w_M1 {r : V → List V → Hp → VK → Prop} (h : ta σ H fun x H1 => (∃ a, x = .str a) ∧ te σ H1 fun y H2 => r x [y] H2 Q) : tM1 r ta te σ H Q := h
theorem w_M1s {z : Str} {R : Prop} (q : R) : (∃ a, V.str z = .str a) ∧ R := ⟨⟨z, rfl⟩, q⟩
theorem w_join {z : Str} {p : Addr} (ys : List Str) (h : SqL K H p (ys.map V.str)) (hz : (ys.map (·.length)).sum + ys.length * z.length ≤ 16777216) (q : Q (.str (Txt.join z ys)) H) : rJoin K (.str z) [.ref p] H Q := ⟨z, p, ys, rfl, rfl, .inl h, hz, q⟩
theorem w_iteX {a b : List Nat} {A B : Prop} (h1 : a = b → A) (h2 : a ≠ b → B) : if decide (V.str (S a) = V.str (S b)) = true then A else B := w_iteS (fun h => h1 (SX.S_inj h)) fun h => h2 fun e => h (congrArg S e)
theorem w_iteNX {a b : List Nat} {A B : Prop} (h1 : a ≠ b → A) (h2 : a = b → B) : if (!decide (V.str (S a) = V.str (S b))) = true then A else B := w_iteNS (fun h => h1 fun e => h (congrArg S e)) fun h => h2 (SX.S_inj h)
end
theorem str_nil : Str.ofString "" = S [] := by decide +kernel
theorem joinL_nil : ∀ ys : List (List Nat), TL.joinL [] ys = ys.flatten
  | [] => rfl
  | [p] => by simp [TL.joinL]
  | p :: q :: r => by
    show p ++ ([] ++ TL.joinL [] (q :: r)) = _
    rw [joinL_nil (q :: r), List.nil_append] <;> rfl
theorem join_X (ys : List (List Nat)) : Txt.join (S []) (ys.map S) = S ys.flatten := by rw [SX.join_S, joinL_nil]
theorem flat_one (l : List Nat) : (l.map fun c => [c]).flatten = l := by induction l with | nil => rfl | cons c l ih => rw [List.map_cons, List.flatten_cons, ih] <;> rfl
theorem join_signs (l : List Nat) : Txt.join (S []) (l.map fun c => S [c]) = S l := by
  have e := join_X (l.map fun c => [c])
  rw [flat_one, List.map_map] at e
  exact e
theorem count_X (l : List Nat) (c : Nat) : Txt.count (S l) (S [c]) = (l.count c : Nat) := by
  rw [show Txt.count (S l) (S [c]) = PyProof.Rows.cnt c l from PyProof.Rows.count_cnt (S l) c]
  induction l with
  | nil => rfl
  | cons d l ih =>
    rw [PyProof.Rows.cnt_cons, ih, List.count_cons]
    by_cases h : d = c
    · subst h
      simp
      omega
    · simp [h]
theorem map_S1 {l : List Nat} {i : Nat} {x : V} (h : (l.map fun c => V.str (S [c]))[i]? = some x) : ∃ c, l[i]? = some c ∧ x = .str (S [c]) := by
  rw [List.getElem?_map] at h
  cases e : l[i]? with
  | none => rw [e] at h; cases h
  | some n => rw [e] at h; exact ⟨n, rfl, (Option.some.inj h).symm⟩
/-! ### the signs of the laws' books -/
def someL : List Nat := ((List.range 95).map fun k => 32 + k).filter fun c => c != 37
theorem some_eq : (Str.ofString " !\"#$&'()*+,-./0123456789:;<=>?@ABCDEFGHIJKLMNOPQRSTUVWXYZ[\\]^_`" ++ Str.ofString "abcdefghijklmnopqrstuvwxyz{|}~" : Str) = S someL := by decide +kernel
theorem someL_len : someL.length = 94 := by decide +kernel
theorem someL_all : ∀ c ∈ someL, 32 ≤ c ∧ c ≤ 126 ∧ c ≠ 37 := by decide +kernel
theorem someL_nodup : someL.Nodup := by decide +kernel
def signAt (c : Int) (k : Nat) : Nat := ((c + (k : Int) * (1 + 2 * (c / 94 % 23))) % 94).toNat
def signsBy (c many : Int) : List Nat := (List.range many.toNat).map fun k => someL.getD (signAt c k) 0
theorem signAt_lt (c : Int) (k : Nat) : signAt c k < 94 := by unfold signAt; omega
theorem sign_get (c : Int) (k : Nat) : someL[signAt c k]? = some (someL.getD (signAt c k) 0) := by
  have h : signAt c k < someL.length := by rw [someL_len]; exact signAt_lt c k
  rw [List.getD_eq_getElem?_getD, List.getElem?_eq_getElem h]
  rfl
theorem signsBy_len (c many : Int) : (signsBy c many).length = many.toNat := by simp [signsBy]
theorem signsBy_mem {c many : Int} {z : Nat} (h : z ∈ signsBy c many) : z ∈ someL := by
  obtain ⟨k, _, rfl⟩ := List.mem_map.mp h
  exact List.mem_of_getElem? (sign_get c k)
theorem step_94 : ∀ s : Fin 23, ∀ d : Fin 94, d.val ≠ 0 → (d.val * (1 + 2 * s.val)) % 94 ≠ 0 := by decide +kernel
theorem signAt_inj {c : Int} {j k : Nat} (hk : k < 94) (hj : j < k) : signAt c j ≠ signAt c k := by
  intro e
  have h0 : 0 ≤ c / 94 % 23 := Int.emod_nonneg _ (by decide)
  have h1 : c / 94 % 23 < 23 := Int.emod_lt_of_pos _ (by decide)
  obtain ⟨s, hs⟩ := Int.eq_ofNat_of_zero_le h0
  have hs' : s < 23 := by omega
  have q := step_94 ⟨s, hs'⟩ ⟨k - j, by omega⟩ (by show k - j ≠ 0; omega)
  refine q ?_
  show ((k - j) * (1 + 2 * s)) % 94 = 0
  unfold signAt at e
  rw [hs] at e
  have e2 : (c + (j : Int) * (1 + 2 * (s : Int))) % 94 = (c + (k : Int) * (1 + 2 * (s : Int))) % 94 := by
    have a1 := Int.emod_nonneg (c + (j : Int) * (1 + 2 * (s : Int))) (show (94 : Int) ≠ 0 by decide)
    have a2 := Int.emod_nonneg (c + (k : Int) * (1 + 2 * (s : Int))) (show (94 : Int) ≠ 0 by decide)
    omega
  have e3 : ((k : Int) * (1 + 2 * (s : Int)) - (j : Int) * (1 + 2 * (s : Int))) % 94 = 0 := by omega
  have e4 : ((k : Int) - (j : Int)) * (1 + 2 * (s : Int)) = (k : Int) * (1 + 2 * (s : Int)) - (j : Int) * (1 + 2 * (s : Int)) := Int.sub_mul _ _ _
  rw [← e4] at e3
  have e5 : (((k - j) * (1 + 2 * s) : Nat) : Int) = ((k : Int) - (j : Int)) * (1 + 2 * (s : Int)) := by
    rw [Int.natCast_mul, Int.natCast_add, Int.natCast_mul, Int.ofNat_sub (by omega)]
    rfl
  rw [← e5] at e3
  omega
theorem signsBy_nodup {c many : Int} (h : many ≤ 94) : (signsBy c many).Nodup := by
  unfold signsBy
  rw [List.nodup_iff_pairwise_ne, List.pairwise_map]
  refine List.Pairwise.imp_of_mem (R := fun a b => a < b) (fun {a b} ha hb hab q => ?_) List.pairwise_lt_range
  have hb' := List.mem_range.mp hb
  have h1 : signAt c a < someL.length := by rw [someL_len]; exact signAt_lt c a
  have h2 : signAt c b < someL.length := by rw [someL_len]; exact signAt_lt c b
  have g1 := sign_get c a
  have g2 := sign_get c b
  rw [q] at g1
  rw [List.getElem?_eq_getElem h1] at g1
  rw [List.getElem?_eq_getElem h2] at g2
  have e := (List.getElem_inj someL_nodup).mp ((Option.some.inj g1).trans (Option.some.inj g2).symm)
  exact signAt_inj (by omega) hab e
/-- how often each sign stands in a text -/
def countsL (signs block : List Nat) : List Int := signs.map fun c => ((block.count c : Nat) : Int)
theorem countsL_len (signs block : List Nat) : (countsL signs block).length = signs.length := List.length_map _
end Sp
namespace Sp
open PySem L2
local macro_rules | `(tactic| walk_at "look") => `(tactic| first
  | assumption
  | exact SqL.of (by assumption)
  | exact SqT.of (by assumption)
  | ((apply Same.seq); (first | assumption | (apply Sp.same_new; assumption)); walk_at "look")
  | ((apply Sp.Same.tup); (first | assumption | (apply Sp.same_new; assumption)); walk_at "look")
  | ((apply Sp.Same.at); (first | assumption | (apply Sp.same_new; assumption)); walk_at "look"))
local macro_rules | `(tactic| walk_at "isi") => `(tactic| first
  | (with_reducible apply Sp.isi_int_int)
  | (with_reducible apply Sp.isi_int_bool)
  | (with_reducible apply Sp.isi_int_str)
  | (with_reducible apply Sp.isi_int_list)
  | (with_reducible apply Sp.isi_int_tuple)
  | (with_reducible apply Sp.isi_bl_int)
  | (with_reducible apply Sp.isi_bl_bool)
  | (with_reducible apply Sp.isi_bl_str)
  | (with_reducible apply Sp.isi_bl_list)
  | (with_reducible apply Sp.isi_bl_tuple)
  | (with_reducible apply Sp.isi_non_int)
  | (with_reducible apply Sp.isi_non_bool)
  | (with_reducible apply Sp.isi_non_str)
  | (with_reducible apply Sp.isi_non_list)
  | (with_reducible apply Sp.isi_non_tuple)
  | (with_reducible apply Sp.isi_str_int)
  | (with_reducible apply Sp.isi_str_bool)
  | (with_reducible apply Sp.isi_str_str)
  | (with_reducible apply Sp.isi_str_list)
  | (with_reducible apply Sp.isi_str_tuple)
  | ((with_reducible apply Sp.isi_lst_int); walk_at "look")
  | ((with_reducible apply Sp.isi_lst_bool); walk_at "look")
  | ((with_reducible apply Sp.isi_lst_str); walk_at "look")
  | ((with_reducible apply Sp.isi_lst_list); walk_at "look")
  | ((with_reducible apply Sp.isi_lst_tuple); walk_at "look")
  | ((with_reducible apply Sp.isi_tup_int); walk_at "look")
  | ((with_reducible apply Sp.isi_tup_bool); walk_at "look")
  | ((with_reducible apply Sp.isi_tup_str); walk_at "look")
  | ((with_reducible apply Sp.isi_tup_list); walk_at "look")
  | ((with_reducible apply Sp.isi_tup_tuple); walk_at "look"))
local macro_rules | `(tactic| walk_at "s") => `(tactic| first
  | ((with_reducible apply Sp.w_var); exact rfl)
  | (with_reducible apply Sp.w_c)
  | (with_reducible apply Sp.w_op)
  | (with_reducible apply Sp.w_I0)
  | ((with_reducible apply Sp.w_I); (first | (show (0 : Int) < _; decide) | exact ⟨by decide, by decide⟩ | (show (0 : Int) < _; omega) | exact .inl ⟨by decide, by decide⟩ | exact .inr ⟨by decide, by decide⟩ | exact .inl ⟨by omega, by omega⟩ | exact .inr ⟨by omega, by omega⟩))
  | (with_reducible apply Sp.w_rfl)
  | (with_reducible apply Sp.w_ints2)
  | (with_reducible apply Sp.w_inS)
  | (with_reducible apply Sp.w_M1)
  | (with_reducible apply Sp.w_M1s)
  | (with_reducible apply Sp.w_two)
  | (with_reducible apply Sp.w_int1)
  | (with_reducible apply Sp.w_int1b)
  | ((with_reducible apply Sp.w_lenK); walk_at "look")
  | ((with_reducible apply Sp.w_listK); walk_at "look")
  | ((with_reducible apply Sp.w_sum); walk_at "look")
  | (with_reducible apply Sp.w_for)
  | (with_reducible apply Sp.w_lc)
  | (with_reducible apply Sp.w_iList)
  | ((with_reducible apply Sp.w_itL); walk_at "look")
  | (with_reducible apply Sp.w_iStr)
  | (with_reducible apply Sp.w_str)
  | (with_reducible apply Sp.w_iRng1)
  | ((with_reducible apply Sp.w_rng1); omega; omega)
  | (with_reducible apply Sp.w_iZip)
  | ((with_reducible apply Sp.w_zip); walk_at "look"; walk_at "look")
  | (with_reducible apply Sp.w_iEnum)
  | ((with_reducible apply Sp.w_enum); walk_at "look")
  | ((with_reducible apply Sp.w_gTup); walk_at "look"; exact rfl)
  | (with_reducible apply Sp.w_gCons)
  | (with_reducible apply Sp.w_gNil)
  | (with_reducible apply Sp.w_gSub)
  | (with_reducible apply Sp.w_N)
  | (with_reducible apply Sp.w_tyS)
  | ((with_reducible apply Sp.w_tyL); walk_at "look")
  | ((with_reducible apply Sp.w_slL); walk_at "look")
  | (with_reducible show rIsi _ _ _ _; walk_at "isi")
  | (with_reducible apply Sp.w_cons)
  | (with_reducible apply Sp.w_nil)
  | (with_reducible apply Sp.w_call)
  | (with_reducible apply Sp.w_cb)
  | (with_reducible apply Sp.w_seq)
  | (with_reducible apply Sp.w_asg)
  | (with_reducible apply Sp.w_ret)
  | (with_reducible apply Sp.w_ifS)
  | (with_reducible apply Sp.w_test)
  | (with_reducible apply Sp.w_bl)
  | (with_reducible apply Sp.w_iteT)
  | (with_reducible apply Sp.w_iteF)
  | (with_reducible apply Sp.w_iteNF)
  | (with_reducible apply Sp.w_iteNT)
  | ((with_reducible apply Sp.w_eq); exact rfl)
  | ((with_reducible apply Sp.w_ne); exact rfl)
  | (with_reducible apply Sp.w_chain)
  | (with_reducible apply Sp.w_andV)
  | (with_reducible apply Sp.w_orV)
  | (with_reducible apply Sp.w_notV)
  | (with_reducible apply Sp.w_B)
  | (with_reducible apply Sp.w_and)
  | (with_reducible apply Sp.w_or)
  | (with_reducible apply Sp.w_not)
  | (with_reducible apply Sp.w_fld)
  | (with_reducible apply Sp.w_int)
  | (with_reducible apply Sp.w_next)
  | (with_reducible apply Sp.w_drop)
  | (with_reducible apply Sp.w_tup)
  | (with_reducible apply Sp.w_lst)
  | (with_reducible apply Sp.w_bm)
  | (with_reducible apply Sp.w_bm0)
  | (with_reducible apply Sp.w_sl)
  | (with_reducible apply Sp.w_nopart)
  | (with_reducible apply Sp.w_part)
  | (with_reducible apply Sp.w_gname)
  | (with_reducible apply Sp.w_asgG)
  | (with_reducible apply Sp.w_sfld)
  | (with_reducible apply Sp.w_un)
  | (with_reducible apply Sp.w_neg)
  | (with_reducible apply Sp.w_retN)
  | (with_reducible apply Sp.w_brk)
  | (with_reducible apply Sp.w_cont)
  | (with_reducible apply Sp.w_if))
local macro_rules | `(tactic| walk_at "ss") => `(tactic| repeat (walk_at "s"))
/-! ## The text by places -/
def top (i : Nat) : Stmt := PySem.Challenge.pw_sharepack_k02_signs_counted.main.body.getD i (.Pass ⟨0, 0, 0, 0⟩)
abbrev s_counted : Stmt := top 1
abbrev s_law_whole : Stmt := top 3
abbrev s_law_cell_at : Stmt := top 4
abbrev s_law_many_by : Stmt := top 5
abbrev s_law_signs_by : Stmt := top 6
abbrev s_law_numbers_alike : Stmt := top 7
abbrev s_law_counts_by : Stmt := top 8
abbrev s_law : Stmt := top 9
structure Adr where
  f_counted : Addr
  d_counted : FuncData
  f_law_whole : Addr
  d_law_whole : FuncData
  f_law_cell_at : Addr
  d_law_cell_at : FuncData
  f_law_many_by : Addr
  d_law_many_by : FuncData
  f_law_signs_by : Addr
  d_law_signs_by : FuncData
  f_law_numbers_alike : Addr
  d_law_numbers_alike : FuncData
  f_law_counts_by : Addr
  d_law_counts_by : FuncData
  f_law : Addr
  d_law : FuncData
/-- what the top has written -/
structure Txt (K : PySem.W.Frag) (mg : Str → Option Value) (A : Adr) : Prop where
  F_counted : Fun K "counted" "counted" s_counted A.f_counted A.d_counted
  b_counted : Binds K A.d_counted ["signs", "block"] []
  g_counted : mg "counted" = some (.ref A.f_counted)
  F_law_whole : Fun K "_law_whole" "_law_whole" s_law_whole A.f_law_whole A.d_law_whole
  b_law_whole : Binds K A.d_law_whole ["_law_found"] []
  g_law_whole : mg "_law_whole" = some (.ref A.f_law_whole)
  F_law_cell_at : Fun K "_law_cell_at" "_law_cell_at" s_law_cell_at A.f_law_cell_at A.d_law_cell_at
  b_law_cell_at : Binds K A.d_law_cell_at ["_law_script", "_law_k"] []
  g_law_cell_at : mg "_law_cell_at" = some (.ref A.f_law_cell_at)
  F_law_many_by : Fun K "_law_many_by" "_law_many_by" s_law_many_by A.f_law_many_by A.d_law_many_by
  b_law_many_by : Binds K A.d_law_many_by ["_law_cell"] []
  g_law_many_by : mg "_law_many_by" = some (.ref A.f_law_many_by)
  F_law_signs_by : Fun K "_law_signs_by" "_law_signs_by" s_law_signs_by A.f_law_signs_by A.d_law_signs_by
  b_law_signs_by : Binds K A.d_law_signs_by ["_law_cell", "_law_many"] []
  g_law_signs_by : mg "_law_signs_by" = some (.ref A.f_law_signs_by)
  F_law_numbers_alike : Fun K "_law_numbers_alike" "_law_numbers_alike" s_law_numbers_alike A.f_law_numbers_alike A.d_law_numbers_alike
  b_law_numbers_alike : Binds K A.d_law_numbers_alike ["_law_found", "_law_due"] []
  g_law_numbers_alike : mg "_law_numbers_alike" = some (.ref A.f_law_numbers_alike)
  F_law_counts_by : Fun K "_law_counts_by" "_law_counts_by" s_law_counts_by A.f_law_counts_by A.d_law_counts_by
  b_law_counts_by : Binds K A.d_law_counts_by ["_law_signs", "_law_block"] []
  g_law_counts_by : mg "_law_counts_by" = some (.ref A.f_law_counts_by)
  F_law : Fun K "law" "law" s_law A.f_law A.d_law
  b_law : Binds K A.d_law ["_law_script"] []
  g_law : mg "law" = some (.ref A.f_law)
  n_bool : mg "bool" = none
  n_int : mg "int" = none
  n_isinstance : mg "isinstance" = none
  n_len : mg "len" = none
  n_list : mg "list" = none
  n_range : mg "range" = none
  n_zip : mg "zip" = none
theorem sc_counted : FnScope ["signs", "block", "sign"] ["signs", "block"] (defScope s_counted) := ⟨rfl, rfl, rfl, by decide +kernel, rfl, by decide +kernel, by decide +kernel⟩
section
variable {P : Program} {w : World} {K : PySem.W.Frag} {mg : Str → Option Value} {base : Heap} {A : Adr}
def sp_counted : L2.Sp := fun vs H Q _ => ∃ (g b : List Nat), vs = [.str (S g), .str (S b)] ∧ g.length ≤ 1000 ∧ ∀ p H', Same H H' → H p = none → H' p = some (.lst ((countsL g b).map V.int)) → Q (.ref p) H'
theorem u_counted {H : Hp} {Q : VK} {E : XK} {g b : List Nat} (h : g.length ≤ 1000) (q : ∀ p H', Same H H' → H p = none → H' p = some (.lst ((countsL g b).map V.int)) → Q (.ref p) H') : sp_counted [.str (S g), .str (S b)] H Q E := ⟨g, b, rfl, h, q⟩
theorem ok_counted (T : Txt K mg A) : FnOk P w K mg base CX0 1 A.f_counted A.d_counted ["signs", "block"] (sp_counted) := by
  refine T.F_counted.ok sc_counted (fun vs H Q E h => by first | (obtain ⟨rfl, _⟩ := h; rfl) | (obtain ⟨_, rfl, _⟩ := h; rfl) | (obtain ⟨_, _, rfl, _⟩ := h; rfl) | (obtain ⟨_, _, _, rfl, _⟩ := h; rfl) | (obtain ⟨_, _, _, _, rfl, _⟩ := h; rfl) | (obtain ⟨_, _, _, _, _, rfl, _⟩ := h; rfl) | (obtain ⟨_, _, _, _, _, _, rfl, _⟩ := h; rfl) | (obtain ⟨_, _, _, _, _, _, _, rfl, _⟩ := h; rfl) | (obtain ⟨_, _, _, _, _, _, _, _, rfl, _⟩ := h; rfl) | (obtain ⟨_, _, _, _, _, _, _, _, _, rfl, _⟩ := h; rfl)) (fun cdv Ar outer s H vs Q E hr h => ?_)
  obtain ⟨g, b, rfl, hg, q⟩ := h
  refine ⟨_, (pss_one (ps_ret (pe_lc (own := [("sign", 2)]) (g := gName 2) rfl sc_counted.nd (pi_str (pv 0)) (blkOk_by (own := [("sign", 2)]) (N := ["signs", "block", "sign"]) (sc := defScope s_counted) (by decide +kernel)) (fun _ _ _ _ _ => (pg_name (i := 2) sc_counted.nd rfl (Or.inl rfl))) (fun _ _ _ _ _ => pts_nil) (fun _ _ _ _ _ => (pe_bmK (K := K) PySem.F.plainAttrs_str PySem.F.slot_str_count PySem.F.type_str_count mt_count (pv 1) (pa_cons (pv 2) pa_nil)))))), ?_⟩
  refine w_start (σ' := [some _, some _, none]) rfl ?_
  try dsimp only [cxOf, Cx.nox, Cx.wish]
  walk_at "ss"
  refine lc_pure walk_S ((countsL g b).map V.int) (by simp [countsL]) (Nat.le_trans hg (by decide)) (fun _ _ => trivial) (fun i x y H1 H2 R hi hy s1 hx k => ?_) (fun p H' s hp h => q p H' s hp h)
  obtain ⟨rfl, c, hc, rfl⟩ := hx
  obtain ⟨n, hn, rfl⟩ := map_int hy
  unfold countsL at hn
  rw [List.getElem?_map, hc] at hn
  cases (Option.some.inj hn)
  walk_at "ss"
  refine ⟨rfl, ?_⟩
  walk_at "ss"
  rw [count_X]
  exact k _ (Same.refl _)
end
theorem sc_law_whole : FnScope ["_law_found"] ["_law_found"] (defScope s_law_whole) := ⟨rfl, rfl, rfl, by decide +kernel, rfl, by decide +kernel, by decide +kernel⟩
section
variable {P : Program} {w : World} {K : PySem.W.Frag} {mg : Str → Option Value} {base : Heap} {A : Adr}
def sp_law_whole : L2.Sp := fun vs H Q _ => ∃ i : Int, vs = [.int i] ∧ Q (.bl true) H
theorem u_law_whole {H : Hp} {Q : VK} {E : XK} {i : Int} (q : Q (.bl true) H) : sp_law_whole [.int i] H Q E := ⟨i, rfl, q⟩
theorem ok_law_whole (T : Txt K mg A) : FnOk P w K mg base CX0 1 A.f_law_whole A.d_law_whole ["_law_found"] (sp_law_whole) := by
  refine T.F_law_whole.ok sc_law_whole (fun vs H Q E h => by first | (obtain ⟨rfl, _⟩ := h; rfl) | (obtain ⟨_, rfl, _⟩ := h; rfl) | (obtain ⟨_, _, rfl, _⟩ := h; rfl) | (obtain ⟨_, _, _, rfl, _⟩ := h; rfl) | (obtain ⟨_, _, _, _, rfl, _⟩ := h; rfl) | (obtain ⟨_, _, _, _, _, rfl, _⟩ := h; rfl) | (obtain ⟨_, _, _, _, _, _, rfl, _⟩ := h; rfl) | (obtain ⟨_, _, _, _, _, _, _, rfl, _⟩ := h; rfl) | (obtain ⟨_, _, _, _, _, _, _, _, rfl, _⟩ := h; rfl) | (obtain ⟨_, _, _, _, _, _, _, _, _, rfl, _⟩ := h; rfl)) (fun cdv Ar outer s H vs Q E hr h => ?_)
  obtain ⟨i, rfl, q⟩ := h
  refine ⟨_, (pss_one (ps_ret (pe_and (pe_callB (call_isiK0 (K := K)) (by rfl) T.n_isinstance (by decide +kernel) (pa_cons (pv 0) (pa_cons (pe_bltn (v := .ty "int") (by rfl) T.n_int (by decide +kernel) rfl) pa_nil))) (pe_one (pe_not (pe_callB (call_isiK0 (K := K)) (by rfl) T.n_isinstance (by decide +kernel) (pa_cons (pv 0) (pa_cons (pe_bltn (v := .ty "bool") (by rfl) T.n_bool (by decide +kernel) rfl) pa_nil)))))))), ?_⟩
  refine w_start (σ' := [some _]) rfl ?_
  try dsimp only [cxOf, Cx.nox, Cx.wish]
  walk_at "ss"
  exact q
end
theorem sc_law_cell_at : FnScope ["_law_script", "_law_k"] ["_law_script", "_law_k"] (defScope s_law_cell_at) := ⟨rfl, rfl, rfl, by decide +kernel, rfl, by decide +kernel, by decide +kernel⟩
section
variable {P : Program} {w : World} {K : PySem.W.Frag} {mg : Str → Option Value} {base : Heap} {A : Adr}
def sp_cell_at (K : PySem.W.Frag) : L2.Sp := fun vs H Q _ => ∃ (a : Addr) (ns : List Int) (k : Int), vs = [.ref a, .int k] ∧ SqL K H a (ns.map V.int) ∧ 0 ≤ k ∧ Q (.int (cellAt ns k)) H
theorem u_cell_at {H : Hp} {Q : VK} {E : XK} {a : Addr} {ns : List Int} {k : Int} (h : SqL K H a (ns.map V.int)) (hk : 0 ≤ k) (q : Q (.int (cellAt ns k)) H) : sp_cell_at K [.ref a, .int k] H Q E := ⟨a, ns, k, rfl, h, hk, q⟩
theorem ok_law_cell_at (T : Txt K mg A) : FnOk P w K mg base CX0 1 A.f_law_cell_at A.d_law_cell_at ["_law_script", "_law_k"] (sp_cell_at K) := by
  refine T.F_law_cell_at.ok sc_law_cell_at (fun vs H Q E h => by first | (obtain ⟨rfl, _⟩ := h; rfl) | (obtain ⟨_, rfl, _⟩ := h; rfl) | (obtain ⟨_, _, rfl, _⟩ := h; rfl) | (obtain ⟨_, _, _, rfl, _⟩ := h; rfl) | (obtain ⟨_, _, _, _, rfl, _⟩ := h; rfl) | (obtain ⟨_, _, _, _, _, rfl, _⟩ := h; rfl) | (obtain ⟨_, _, _, _, _, _, rfl, _⟩ := h; rfl) | (obtain ⟨_, _, _, _, _, _, _, rfl, _⟩ := h; rfl) | (obtain ⟨_, _, _, _, _, _, _, _, rfl, _⟩ := h; rfl) | (obtain ⟨_, _, _, _, _, _, _, _, _, rfl, _⟩ := h; rfl)) (fun cdv Ar outer s H vs Q E hr h => ?_)
  obtain ⟨a, ns, k, rfl, hS, hk, q⟩ := h
  refine ⟨_, (pss_cons (ps_if (pt_cmpR op_lt (pv 1) (pe_callB (call_lenK (K := K)) (by rfl) T.n_len PySem.boot_len (pa_cons (pv 0) pa_nil)) (nomark _)) (pss_one (ps_ret (pe_ix (ix_listK (K := K)) (pv 0) (pv 1) (fun _ _ => rfl))))
      pss_nil)
      (pss_one (ps_ret pe_int))), ?_⟩
  refine w_start (σ' := [some _, some _]) rfl ?_
  try dsimp only [cxOf, Cx.nox, Cx.wish]
  walk_at "ss"
  rw [List.length_map]
  refine w_ite (fun h => ?_) (fun h => ?_)
  · walk_at "ss"
    refine w_ixL hS (atI_int hk h) ?_
    rw [cellAt, if_pos h] at q
    exact q
  · walk_at "ss"
    rw [cellAt, if_neg h] at q
    exact q
end
theorem sc_law_many_by : FnScope ["_law_cell"] ["_law_cell"] (defScope s_law_many_by) := ⟨rfl, rfl, rfl, by decide +kernel, rfl, by decide +kernel, by decide +kernel⟩
section
variable {P : Program} {w : World} {K : PySem.W.Frag} {mg : Str → Option Value} {base : Heap} {A : Adr}
def sp_many_by : L2.Sp := fun vs H Q _ => ∃ c : Int, vs = [.int c] ∧ Q (.int (manyBy c)) H
theorem u_many_by {H : Hp} {Q : VK} {E : XK} {c : Int} (q : Q (.int (manyBy c)) H) : sp_many_by [.int c] H Q E := ⟨c, rfl, q⟩
theorem ok_law_many_by (T : Txt K mg A) : FnOk P w K mg base CX0 1 A.f_law_many_by A.d_law_many_by ["_law_cell"] (sp_many_by) := by
  refine T.F_law_many_by.ok sc_law_many_by (fun vs H Q E h => by first | (obtain ⟨rfl, _⟩ := h; rfl) | (obtain ⟨_, rfl, _⟩ := h; rfl) | (obtain ⟨_, _, rfl, _⟩ := h; rfl) | (obtain ⟨_, _, _, rfl, _⟩ := h; rfl) | (obtain ⟨_, _, _, _, rfl, _⟩ := h; rfl) | (obtain ⟨_, _, _, _, _, rfl, _⟩ := h; rfl) | (obtain ⟨_, _, _, _, _, _, rfl, _⟩ := h; rfl) | (obtain ⟨_, _, _, _, _, _, _, rfl, _⟩ := h; rfl) | (obtain ⟨_, _, _, _, _, _, _, _, rfl, _⟩ := h; rfl) | (obtain ⟨_, _, _, _, _, _, _, _, _, rfl, _⟩ := h; rfl)) (fun cdv Ar outer s H vs Q E hr h => ?_)
  obtain ⟨c, rfl, q⟩ := h
  refine ⟨_, (pss_cons (ps_if (pt_cmpR op_eq (pe_op op_mod (pe_op op_fdiv (pv 0) pe_int) pe_int) pe_int (nomark _)) (pss_one (ps_ret (pe_op op_add pe_int (pe_op op_mod (pe_op op_fdiv (pv 0) pe_int) pe_int))))
      pss_nil)
      (pss_one (ps_ret (pe_op op_add pe_int (pe_op op_mod (pv 0) pe_int))))), ?_⟩
  refine w_start (σ' := [some _]) rfl ?_
  try dsimp only [cxOf, Cx.nox, Cx.wish]
  unfold manyBy at q
  walk_at "ss"
  refine w_iteI (fun h => ?_) (fun h => ?_)
  · walk_at "ss"
    rw [if_pos h] at q
    exact q
  · walk_at "ss"
    rw [if_neg h] at q
    exact q
end
theorem sc_law_signs_by : FnScope ["_law_cell", "_law_many", "_law_some", "_law_step", "_law_k"] ["_law_cell", "_law_many"] (defScope s_law_signs_by) := ⟨rfl, rfl, rfl, by decide +kernel, rfl, by decide +kernel, by decide +kernel⟩
section
variable {P : Program} {w : World} {K : PySem.W.Frag} {mg : Str → Option Value} {base : Heap} {A : Adr}
def sp_signs_by : L2.Sp := fun vs H Q _ => ∃ (c many : Int), vs = [.int c, .int many] ∧ 0 ≤ many ∧ many ≤ 1000 ∧ ∀ H', Same H H' → Q (.str (S (signsBy c many))) H'
theorem u_signs_by {H : Hp} {Q : VK} {E : XK} {c many : Int} (h0 : 0 ≤ many) (h : many ≤ 1000) (q : ∀ H', Same H H' → Q (.str (S (signsBy c many))) H') : sp_signs_by [.int c, .int many] H Q E := ⟨c, many, rfl, h0, h, q⟩
theorem ok_law_signs_by (T : Txt K mg A) : FnOk P w K mg base CX0 1 A.f_law_signs_by A.d_law_signs_by ["_law_cell", "_law_many"] (sp_signs_by) := by
  refine T.F_law_signs_by.ok sc_law_signs_by (fun vs H Q E h => by first | (obtain ⟨rfl, _⟩ := h; rfl) | (obtain ⟨_, rfl, _⟩ := h; rfl) | (obtain ⟨_, _, rfl, _⟩ := h; rfl) | (obtain ⟨_, _, _, rfl, _⟩ := h; rfl) | (obtain ⟨_, _, _, _, rfl, _⟩ := h; rfl) | (obtain ⟨_, _, _, _, _, rfl, _⟩ := h; rfl) | (obtain ⟨_, _, _, _, _, _, rfl, _⟩ := h; rfl) | (obtain ⟨_, _, _, _, _, _, _, rfl, _⟩ := h; rfl) | (obtain ⟨_, _, _, _, _, _, _, _, rfl, _⟩ := h; rfl) | (obtain ⟨_, _, _, _, _, _, _, _, _, rfl, _⟩ := h; rfl)) (fun cdv Ar outer s H vs Q E hr h => ?_)
  obtain ⟨c, many, rfl, h0, hm, q⟩ := h
  refine ⟨_, (pss_cons (ps_set (i := 2) sc_law_signs_by.nd rfl (Or.inr rfl) pe_str)
      (pss_cons (ps_set (i := 2) sc_law_signs_by.nd rfl (Or.inr rfl) (pe_op op_add_str (pv 2) pe_str))
      (pss_cons (ps_set (i := 3) sc_law_signs_by.nd rfl (Or.inr rfl) (pe_op op_add pe_int (pe_op op_mul pe_int (pe_op op_mod (pe_op op_fdiv (pv 0) pe_int) pe_int))))
      (pss_one (ps_ret (pe_bmK (K := K) PySem.F.plainAttrs_str PySem.F.slot_str_join PySem.F.type_str_join (mt_joinK (K := K)) pe_str (pa_cons (pe_lc (own := [("_law_k", 4)]) (g := gName 4) rfl sc_law_signs_by.nd (pi_range1 rfl T.n_range (pa_cons (pv 1) pa_nil)) (blkOk_by (own := [("_law_k", 4)]) (N := ["_law_cell", "_law_many", "_law_some", "_law_step", "_law_k"]) (sc := defScope s_law_signs_by) (by decide +kernel)) (fun _ _ _ _ _ => (pg_name (i := 4) sc_law_signs_by.nd rfl (Or.inl rfl))) (fun _ _ _ _ _ => pts_nil) (fun _ _ _ _ _ => (pe_ix ix_str (pv 2) (pe_op op_mod (pe_op op_add (pv 0) (pe_op op_mul (pv 4) (pv 3))) pe_int) (fun _ _ => rfl)))) pa_nil))))))), ?_⟩
  refine w_start (σ' := [some _, some _, none, none, none]) rfl ?_
  try dsimp only [cxOf, Cx.nox, Cx.wish]
  walk_at "ss"
  refine w_addS (by decide +kernel) ?_
  rw [some_eq]
  walk_at "ss"
  refine lc_pure walk_range0 ((signsBy c many).map fun z => V.str (S [z])) (by rw [List.length_map, signsBy_len]) (Nat.le_trans (show _ ≤ 1000 by omega) (by decide)) (fun _ _ => trivial) (fun i x y H1 H2 R hi hy s1 hx k => ?_) (fun p H' s hp h => ?_)
  · obtain ⟨rfl, rfl⟩ := hx
    obtain ⟨z, hz, rfl⟩ := map_S1 hy
    unfold signsBy at hz
    rw [List.getElem?_map, List.getElem?_range hi] at hz
    cases (Option.some.inj hz)
    walk_at "ss"
    refine ⟨rfl, ?_⟩
    walk_at "ss"
    have hb : (i : Int) < 1000 := by omega
    walk_at "ss"
    rw [show (c + (i : Int) * (1 + 2 * (c / 94 % 23))) % 94 = ((signAt c i : Nat) : Int) by unfold signAt; rw [Int.toNat_of_nonneg (Int.emod_nonneg _ (by decide))]]
    exact w_ixX (by rw [someL_len]; decide) (sign_get c i) (k _ (Same.refl _))
  · walk_at "ss"
    refine w_join ((signsBy c many).map fun z => S [z]) (by rw [List.map_map]; exact SqL.of h) ?_ ?_
    · rw [List.map_map, List.length_map, signsBy_len]
      show ((signsBy c many).map (fun _ => 1)).sum + _ ≤ _
      rw [List.map_const', List.sum_replicate_nat, signsBy_len, str_nil, S_len]
      simp
      omega
    · rw [str_nil, join_signs]
      exact q _ s
end
theorem sc_law_numbers_alike : FnScope ["_law_found", "_law_due", "_law_one", "_law_own"] ["_law_found", "_law_due"] (defScope s_law_numbers_alike) := ⟨rfl, rfl, rfl, by decide +kernel, rfl, by decide +kernel, by decide +kernel⟩
section
variable {P : Program} {w : World} {K : PySem.W.Frag} {mg : Str → Option Value} {base : Heap} {A : Adr}
def sp_numbers_alike (K : PySem.W.Frag) : L2.Sp := fun vs H Q _ => ∃ (a b : Addr) (xs ys : List Int), vs = [.ref a, .ref b] ∧ H a = some (.lst (xs.map V.int)) ∧ SqL K H b (ys.map V.int) ∧ ∀ H', Same H H' → Q (.bl (decide (xs = ys))) H'
theorem u_numbers_alike {H : Hp} {Q : VK} {E : XK} {a b : Addr} {xs ys : List Int} (h1 : H a = some (.lst (xs.map V.int))) (h2 : SqL K H b (ys.map V.int)) (q : ∀ H', Same H H' → Q (.bl (decide (xs = ys))) H') : sp_numbers_alike K [.ref a, .ref b] H Q E := ⟨a, b, xs, ys, rfl, h1, h2, q⟩
theorem ok_law_numbers_alike (T : Txt K mg A) : FnOk P w K mg base CX0 2 A.f_law_numbers_alike A.d_law_numbers_alike ["_law_found", "_law_due"] (sp_numbers_alike K) := by
  have G_law_whole := ok_law_whole (P := P) (w := w) (base := base) T
  refine T.F_law_numbers_alike.ok sc_law_numbers_alike (fun vs H Q E h => by first | (obtain ⟨rfl, _⟩ := h; rfl) | (obtain ⟨_, rfl, _⟩ := h; rfl) | (obtain ⟨_, _, rfl, _⟩ := h; rfl) | (obtain ⟨_, _, _, rfl, _⟩ := h; rfl) | (obtain ⟨_, _, _, _, rfl, _⟩ := h; rfl) | (obtain ⟨_, _, _, _, _, rfl, _⟩ := h; rfl) | (obtain ⟨_, _, _, _, _, _, rfl, _⟩ := h; rfl) | (obtain ⟨_, _, _, _, _, _, _, rfl, _⟩ := h; rfl) | (obtain ⟨_, _, _, _, _, _, _, _, rfl, _⟩ := h; rfl) | (obtain ⟨_, _, _, _, _, _, _, _, _, rfl, _⟩ := h; rfl)) (fun cdv Ar outer s H vs Q E hr h => ?_)
  obtain ⟨a, b, xs, ys, rfl, ha, hb, q⟩ := h
  have hr_law_whole := hr.mono (by decide : 1 ≤ 1)
  refine ⟨_, (pss_cons (ps_if (PW.pt (pw_or (pt_not (pt_val (pe_callB (call_isiK0 (K := K)) (by rfl) T.n_isinstance (by decide +kernel) (pa_cons (pv 0) (pa_cons (pe_bltn (v := .ty "list") (by rfl) T.n_list (by decide +kernel) rfl) pa_nil))))) (pw_or1 (pt_cmpR op_ne (pe_callB (call_lenK (K := K)) (by rfl) T.n_len PySem.boot_len (pa_cons (pv 0) pa_nil)) (pe_callB (call_lenK (K := K)) (by rfl) T.n_len PySem.boot_len (pa_cons (pv 1) pa_nil)) (nomark _))))) (pss_one (ps_ret pe_bl))
      pss_nil)
      (pss_cons (ps_for PassesOwn.never rfl (pi_zipK (K := K) (by rfl) T.n_zip (pa_cons (pv 0) (pa_cons (pv 1) pa_nil))) (pg_tupK (K := K) rfl (pgs_cons (pg_name (i := 2) sc_law_numbers_alike.nd rfl (Or.inl rfl)) (pgs_cons (pg_name (i := 3) sc_law_numbers_alike.nd rfl (Or.inl rfl)) pgs_nil)))
      (pss_one (ps_if (PW.pt (pw_or (pt_not (pt_val (pe_call G_law_whole hr_law_whole rfl T.g_law_whole T.F_law_whole.kp T.b_law_whole .nil pass0 (pa_cons (pv 2) pa_nil)))) (pw_or1 (pt_cmpR op_ne (pv 2) (pv 3) (nomark _))))) (pss_one (ps_ret pe_bl))
      pss_nil)))
      (pss_one (ps_ret pe_bl)))), ?_⟩
  refine w_start (σ' := [some _, some _, none, none]) rfl ?_
  try dsimp only [cxOf, Cx.nox, Cx.wish]
  walk_at "ss"
  rw [List.length_map, List.length_map]
  refine w_iteNI (fun h => ?_) (fun h => ?_)
  · walk_at "ss"
    rw [decide_eq_false (fun e => h (by rw [e]))] at q
    exact q _ (Same.refl _)
  · walk_at "ss"
    have hl : xs.length = ys.length := by omega
    refine for_it (walk_zip (n := xs.length) (xs := xs.map V.int) (ys := ys.map V.int) (by simp [hl])) (fun i σ' H' => Same H H' ∧ (∃ v w, σ' = [some (.ref a), some (.ref b), v, w]) ∧ xs.take i = ys.take i) ⟨Same.refl _, ⟨_, _, rfl⟩, rfl⟩ (fun i σ' H' _ p => ⟨p.1.seq (SqL.of ha), p.1.seq hb⟩) (fun i x σ' H' H2 hi p y => ?_) (fun σ' H' p => ?_)
    · obtain ⟨s1, ⟨v, w, rfl⟩, hall⟩ := p
      obtain ⟨T', x1, x2, rfl, hT, rfl, hx, hy⟩ := y
      obtain ⟨m, hm, rfl⟩ := map_int hx
      obtain ⟨n, hn, rfl⟩ := map_int hy
      have s2 := Same.new s1 hT (o := .tup [V.int m, V.int n])
      refine w_gTup (SqT.of upd_same) rfl ?_
      walk_at "ss"
      refine u_law_whole ?_
      walk_at "ss"
      refine w_iteNI (fun h => ?_) (fun h => ?_)
      · walk_at "ss"
        rw [decide_eq_false (fun e => h (by rw [e, hn] at hm; exact (Option.some.inj hm).symm))] at q
        exact q _ s2
      · walk_at "ss"
        refine ⟨s2, ⟨_, _, rfl⟩, ?_⟩
        rw [take_succ hm, take_succ hn, hall, h]
    · obtain ⟨s1, ⟨v, w, rfl⟩, hall⟩ := p
      rw [List.take_length, hl, List.take_length] at hall
      rw [decide_eq_true hall] at q
      walk_at "ss"
      exact q _ s1
end
theorem sc_law_counts_by : FnScope ["_law_signs", "_law_block", "_law_found", "_law_sign", "_law_many", "_law_one"] ["_law_signs", "_law_block"] (defScope s_law_counts_by) := ⟨rfl, rfl, rfl, by decide +kernel, rfl, by decide +kernel, by decide +kernel⟩
section
variable {P : Program} {w : World} {K : PySem.W.Frag} {mg : Str → Option Value} {base : Heap} {A : Adr}
def sp_counts_by : L2.Sp := fun vs H Q _ => ∃ (g b : List Nat), vs = [.str (S g), .str (S b)] ∧ g.length ≤ 1000 ∧ ∀ p H', Same H H' → H p = none → H' p = some (.lst ((countsL g b).map V.int)) → Q (.ref p) H'
theorem u_counts_by {H : Hp} {Q : VK} {E : XK} {g b : List Nat} (h : g.length ≤ 1000) (q : ∀ p H', Same H H' → H p = none → H' p = some (.lst ((countsL g b).map V.int)) → Q (.ref p) H') : sp_counts_by [.str (S g), .str (S b)] H Q E := ⟨g, b, rfl, h, q⟩
theorem ok_law_counts_by (T : Txt K mg A) : FnOk P w K mg base CX0 1 A.f_law_counts_by A.d_law_counts_by ["_law_signs", "_law_block"] (sp_counts_by) := by
  refine T.F_law_counts_by.ok sc_law_counts_by (fun vs H Q E h => by first | (obtain ⟨rfl, _⟩ := h; rfl) | (obtain ⟨_, rfl, _⟩ := h; rfl) | (obtain ⟨_, _, rfl, _⟩ := h; rfl) | (obtain ⟨_, _, _, rfl, _⟩ := h; rfl) | (obtain ⟨_, _, _, _, rfl, _⟩ := h; rfl) | (obtain ⟨_, _, _, _, _, rfl, _⟩ := h; rfl) | (obtain ⟨_, _, _, _, _, _, rfl, _⟩ := h; rfl) | (obtain ⟨_, _, _, _, _, _, _, rfl, _⟩ := h; rfl) | (obtain ⟨_, _, _, _, _, _, _, _, rfl, _⟩ := h; rfl) | (obtain ⟨_, _, _, _, _, _, _, _, _, rfl, _⟩ := h; rfl)) (fun cdv Ar outer s H vs Q E hr h => ?_)
  obtain ⟨g, b, rfl, hg, q⟩ := h
  refine ⟨_, (pss_cons (ps_set (i := 2) sc_law_counts_by.nd rfl (Or.inl rfl) (pe_lst pa_nil))
      (pss_cons (ps_for PassesOwn.never rfl (pi_str (pv 0)) (pg_name (i := 3) sc_law_counts_by.nd rfl (Or.inl rfl))
      (pss_cons (ps_set (i := 4) sc_law_counts_by.nd rfl (Or.inl rfl) pe_int)
      (pss_cons (ps_for PassesOwn.never rfl (pi_str (pv 1)) (pg_name (i := 5) sc_law_counts_by.nd rfl (Or.inl rfl))
      (pss_one (ps_if (pt_cmpR op_eq (pv 5) (pv 3) (nomark _)) (pss_one (ps_set (i := 4) sc_law_counts_by.nd rfl (Or.inl rfl) (pe_op op_add (pv 4) pe_int)))
      pss_nil)))
      (pss_one (ps_expr (pe_bmK (K := K) PySem.F.plainAttrs_list PySem.F.slot_list_append PySem.F.type_list_append mt_append (pv 2) (pa_cons (pv 4) pa_nil)))))))
      (pss_one (ps_ret (pv 2))))), ?_⟩
  refine w_start (σ' := [some _, some _, none, none, none, none]) rfl ?_
  try dsimp only [cxOf, Cx.nox, Cx.wish]
  walk_at "ss"
  refine ⟨by decide, w_newB (fun l H1 s1 hl h1 => ?_)⟩
  walk_at "ss"
  refine for_it walk_S (fun i σ' H' => (∃ u v w, σ' = [some (.str (S g)), some (.str (S b)), some (.ref l), u, v, w]) ∧ Same H H' ∧ H' l = some (.lst ((countsL (g.take i) b).map V.int))) ⟨⟨_, _, _, rfl⟩, s1, h1⟩ (fun _ _ _ _ _ => trivial) (fun i x σ' H' H2 hi p y => ?_) (fun σ' H' p => ?_)
  · obtain ⟨⟨u, v, w, rfl⟩, s2, hL⟩ := p
    obtain ⟨rfl, c, hc, rfl⟩ := y
    walk_at "ss"
    refine for_it (walk_S (l := b)) (fun j σ' H' => (∃ w, σ' = [some (.str (S g)), some (.str (S b)), some (.ref l), some (.str (S [c])), some (.int (((b.take j).count c : Nat) : Int)), w]) ∧ H' = H2) ⟨⟨_, rfl⟩, rfl⟩ (fun _ _ _ _ _ => trivial) (fun j x σ' H3 H4 hj p y => ?_) (fun σ' H3 p => ?_)
    · obtain ⟨⟨w, rfl⟩, rfl⟩ := p
      obtain ⟨rfl, d, hd, rfl⟩ := y
      walk_at "ss"
      have e : (b.take (j + 1)).count c = (b.take j).count c + if d = c then 1 else 0 := by
        rw [take_succ hd, List.count_append, List.count_singleton]
        by_cases h : d = c <;> simp [h]
      refine w_iteX (fun h => ?_) (fun h => ?_)
      · cases (List.cons.inj h).1
        walk_at "ss"
        refine ⟨⟨some (.str (S [c])), ?_⟩, rfl⟩
        rw [e, if_pos rfl]
        rfl
      · walk_at "ss"
        refine ⟨⟨some (.str (S [d])), ?_⟩, rfl⟩
        rw [e, if_neg (fun q => h (by rw [q]))]
        rfl
    · obtain ⟨⟨w, rfl⟩, rfl⟩ := p
      rw [List.take_length]
      walk_at "ss"
      have hi' := hi
      refine w_app hL (by rw [List.length_map, countsL_len, List.length_take]; exact Nat.lt_of_le_of_lt (show _ ≤ 1000 by omega) (by decide)) ?_
      refine ⟨⟨_, _, _, rfl⟩, same_mut0 s2 hl, ?_⟩
      rw [upd_same, take_succ hc]
      unfold countsL
      rw [List.map_append, List.map_append]
      rfl
  · obtain ⟨⟨u, v, w, rfl⟩, s2, hL⟩ := p
    rw [List.take_length] at hL
    walk_at "ss"
    exact q l H' s2 hl hL
end
theorem sc_law : FnScope ["_law_script", "_law_many", "_law_signs", "_law_block", "_law_k", "_law_cell"] ["_law_script"] (defScope s_law) := ⟨rfl, rfl, rfl, by decide +kernel, rfl, by decide +kernel, by decide +kernel⟩
section
variable {P : Program} {w : World} {K : PySem.W.Frag} {mg : Str → Option Value} {base : Heap} {A : Adr}
def sp_law (K : PySem.W.Frag) : L2.Sp := fun vs H Q _ => ∃ (a : Addr) (ns : List Int), vs = [.ref a] ∧ SqL K H a (ns.map V.int) ∧ ns.length ≤ 63 ∧ ∀ H', Q (.bl true) H'
theorem ok_law (T : Txt K mg A) : FnOk P w K mg base CX0 3 A.f_law A.d_law ["_law_script"] (sp_law K) := by
  have G_law_cell_at := ok_law_cell_at (P := P) (w := w) (base := base) T
  have G_law_counts_by := ok_law_counts_by (P := P) (w := w) (base := base) T
  have G_law_many_by := ok_law_many_by (P := P) (w := w) (base := base) T
  have G_law_numbers_alike := ok_law_numbers_alike (P := P) (w := w) (base := base) T
  have G_law_signs_by := ok_law_signs_by (P := P) (w := w) (base := base) T
  have G_counted := ok_counted (P := P) (w := w) (base := base) T
  refine T.F_law.ok sc_law (fun vs H Q E h => by first | (obtain ⟨rfl, _⟩ := h; rfl) | (obtain ⟨_, rfl, _⟩ := h; rfl) | (obtain ⟨_, _, rfl, _⟩ := h; rfl) | (obtain ⟨_, _, _, rfl, _⟩ := h; rfl) | (obtain ⟨_, _, _, _, rfl, _⟩ := h; rfl) | (obtain ⟨_, _, _, _, _, rfl, _⟩ := h; rfl) | (obtain ⟨_, _, _, _, _, _, rfl, _⟩ := h; rfl) | (obtain ⟨_, _, _, _, _, _, _, rfl, _⟩ := h; rfl) | (obtain ⟨_, _, _, _, _, _, _, _, rfl, _⟩ := h; rfl) | (obtain ⟨_, _, _, _, _, _, _, _, _, rfl, _⟩ := h; rfl)) (fun cdv Ar outer s H vs Q E hr h => ?_)
  obtain ⟨a, ns, rfl, hS, hl, q⟩ := h
  have hr_law_cell_at := hr.mono (by decide : 1 ≤ 2)
  have hr_law_counts_by := hr.mono (by decide : 1 ≤ 2)
  have hr_law_many_by := hr.mono (by decide : 1 ≤ 2)
  have hr_law_numbers_alike := hr.mono (by decide : 2 ≤ 2)
  have hr_law_signs_by := hr.mono (by decide : 1 ≤ 2)
  have hr_counted := hr.mono (by decide : 1 ≤ 2)
  refine ⟨_, (pss_cons (ps_set (i := 1) sc_law.nd rfl (Or.inl rfl) (pe_call G_law_many_by hr_law_many_by rfl T.g_law_many_by T.F_law_many_by.kp T.b_law_many_by .nil pass0 (pa_cons (pe_call G_law_cell_at hr_law_cell_at rfl T.g_law_cell_at T.F_law_cell_at.kp T.b_law_cell_at .nil pass0 (pa_cons (pv 0) (pa_cons pe_int pa_nil))) pa_nil)))
      (pss_cons (ps_set (i := 2) sc_law.nd rfl (Or.inl rfl) (pe_call G_law_signs_by hr_law_signs_by rfl T.g_law_signs_by T.F_law_signs_by.kp T.b_law_signs_by .nil pass0 (pa_cons (pe_call G_law_cell_at hr_law_cell_at rfl T.g_law_cell_at T.F_law_cell_at.kp T.b_law_cell_at .nil pass0 (pa_cons (pv 0) (pa_cons pe_int pa_nil))) (pa_cons (pv 1) pa_nil))))
      (pss_cons (ps_set (i := 3) sc_law.nd rfl (Or.inl rfl) pe_str)
      (pss_cons (ps_for PassesOwn.never rfl (pi_range1 rfl T.n_range (pa_cons (pe_op op_mod (pe_call G_law_cell_at hr_law_cell_at rfl T.g_law_cell_at T.F_law_cell_at.kp T.b_law_cell_at .nil pass0 (pa_cons (pv 0) (pa_cons pe_int pa_nil))) pe_int) pa_nil)) (pg_name (i := 4) sc_law.nd rfl (Or.inl rfl))
      (pss_cons (ps_set (i := 5) sc_law.nd rfl (Or.inl rfl) (pe_op op_add (pe_call G_law_cell_at hr_law_cell_at rfl T.g_law_cell_at T.F_law_cell_at.kp T.b_law_cell_at .nil pass0 (pa_cons (pv 0) (pa_cons (pe_op op_add pe_int (pv 4)) pa_nil))) (pe_op op_fdiv (pv 4) pe_int)))
      (pss_one (ps_if (pt_cmpR op_eq (pe_op op_mod (pv 5) pe_int) pe_int (nomark _)) (pss_one (ps_set (i := 3) sc_law.nd rfl (Or.inl rfl) (pe_op op_add_str (pv 3) (pe_call G_law_signs_by hr_law_signs_by rfl T.g_law_signs_by T.F_law_signs_by.kp T.b_law_signs_by .nil pass0 (pa_cons (pe_op op_fdiv (pv 5) pe_int) (pa_cons pe_int pa_nil))))))
      (pss_one (ps_set (i := 3) sc_law.nd rfl (Or.inl rfl) (pe_op op_add_str (pv 3) (pe_ix ix_str (pv 2) (pe_op op_mod (pe_op op_fdiv (pv 5) pe_int) (pv 1)) (fun _ _ => rfl)))))))))
      (pss_one (ps_ret (pe_call G_law_numbers_alike hr_law_numbers_alike rfl T.g_law_numbers_alike T.F_law_numbers_alike.kp T.b_law_numbers_alike .nil pass0 (pa_cons (pe_call G_counted hr_counted rfl T.g_counted T.F_counted.kp T.b_counted .nil pass0 (pa_cons (pv 2) (pa_cons (pv 3) pa_nil))) (pa_cons (pe_call G_law_counts_by hr_law_counts_by rfl T.g_law_counts_by T.F_law_counts_by.kp T.b_law_counts_by .nil pass0 (pa_cons (pv 2) (pa_cons (pv 3) pa_nil))) pa_nil))))))))), ?_⟩
  refine w_start (σ' := [some _, none, none, none, none, none]) rfl ?_
  try dsimp only [cxOf, Cx.nox, Cx.wish]
  have hm := manyBy_bounds (cellAt ns 0)
  have lenS := signsBy_len (cellAt ns 1) (manyBy (cellAt ns 0))
  have hb0 := Int.emod_nonneg (cellAt ns 2) (show (41 : Int) ≠ 0 by decide)
  have hb1 := Int.emod_lt_of_pos (cellAt ns 2) (show (0 : Int) < 41 by decide)
  walk_at "ss"
  refine u_cell_at hS (by decide) ?_
  walk_at "ss"
  refine u_many_by ?_
  walk_at "ss"
  refine u_cell_at hS (by decide) ?_
  walk_at "ss"
  refine u_signs_by (by omega) (by omega) (fun H1 s1 => ?_)
  walk_at "ss"
  refine u_cell_at (by walk_at "look") (by decide) ?_
  walk_at "ss"
  refine for_it walk_range0 (fun i σ' H' => Same H1 H' ∧ ∃ (b : List Nat) (u v : Option V), σ' = [some (.ref a), some (.int (manyBy (cellAt ns 0))), some (.str (S (signsBy (cellAt ns 1) (manyBy (cellAt ns 0))))), some (.str (S b)), u, v] ∧ b.length = i) ⟨Same.refl _, [], none, none, by rw [str_nil]; rfl, rfl⟩ (fun _ _ _ _ _ => trivial) (fun i x σ' H' H2 hi p y => ?_) (fun σ' H' p => ?_)
  · obtain ⟨s2, b, u, v, rfl, hb⟩ := p
    obtain ⟨rfl, rfl⟩ := y
    have hi' : (i : Int) < 41 := by omega
    have hsz : b.length + 1 ≤ sizeLine := Nat.le_trans (show _ ≤ 100 by omega) (by decide)
    walk_at "ss"
    refine u_cell_at (by walk_at "look") (by omega) ?_
    walk_at "ss"
    refine w_iteI (fun h => ?_) (fun h => ?_)
    · walk_at "ss"
      refine u_signs_by (by decide) (by decide) (fun H3 s3 => ?_)
      refine w_addX (by rw [signsBy_len]; exact hsz) ?_
      rw [S_cat]
      walk_at "ss"
      exact ⟨s2.trans s3, _, _, _, rfl, by rw [List.length_append, signsBy_len, hb]; rfl⟩
    · walk_at "ss"
      have m0 := Int.emod_nonneg ((cellAt ns (3 + (i : Int)) + (i : Int) / 7) / 6) (show manyBy (cellAt ns 0) ≠ 0 by omega)
      have m1 := Int.emod_lt_of_pos ((cellAt ns (3 + (i : Int)) + (i : Int) / 7) / 6) (show 0 < manyBy (cellAt ns 0) by omega)
      obtain ⟨j, hj⟩ := Int.eq_ofNat_of_zero_le m0
      rw [hj] at m1 ⊢
      have hj' : j < (signsBy (cellAt ns 1) (manyBy (cellAt ns 0))).length := by rw [lenS]; omega
      refine w_ixX (by rw [lenS]; exact Nat.le_trans (show _ ≤ 40 by omega) (by decide)) (List.getElem?_eq_getElem hj') ?_
      refine w_addX hsz ?_
      rw [S_cat]
      walk_at "ss"
      exact ⟨s2, _, _, _, rfl, by rw [List.length_append, hb]; rfl⟩
  · obtain ⟨s2, b, u, v, rfl, hb⟩ := p
    walk_at "ss"
    refine u_counted (by rw [lenS]; omega) (fun p3 H3 s3 hp3 h3 => ?_)
    walk_at "ss"
    refine u_counts_by (by rw [lenS]; omega) (fun p4 H4 s4 hp4 h4 => ?_)
    walk_at "ss"
    refine u_numbers_alike (by walk_at "look") (by walk_at "look") (fun H5 s5 => ?_)
    rw [decide_eq_true rfl]
    exact q _
end
/-! ## The end -/
def sp_lawEnd (K : PySem.W.Frag) : L2.Sp := fun vs H Q _ => ∃ (a : Addr) (ns : List Int), vs = [.ref a] ∧ SqL K H a (ns.map V.int) ∧ ns.length ≤ 63 ∧ ∀ H', Q (.bl true) H'
theorem all_mk {l : PySem.W.OpenLaw} {w : World} {K : PySem.W.Frag} {h : Heap} {mg : Str → Option Value} {fa : Addr} (X : K.In h) (G : h.Ns mainGlobals mg) (hfa : mg "law" = some (.ref fa))
    {oc_counted : Value} {od_counted an_counted : Option Addr} {sl_counted : Array (Option Value)} {kV_counted dc_counted pm_counted cd_counted ct_counted : Value} {f_counted : Addr}
    (a_counted : PySem.W.nsIn K mainGlobals "counted" = some (some (.ref f_counted)))
    (l_counted : K.lookup f_counted = some ⟨oc_counted, od_counted, .func (PySem.W.fnOf "counted" "counted" (defArgs s_counted) (defBody s_counted) (defScope s_counted) .none kV_counted dc_counted pm_counted an_counted cd_counted ct_counted), sl_counted⟩) (c_counted : PySem.W.codeIn K cd_counted "counted" = true) (k_counted : PySem.W.keepIn K (.ref f_counted) = true)
    {oc_law_whole : Value} {od_law_whole an_law_whole : Option Addr} {sl_law_whole : Array (Option Value)} {kV_law_whole dc_law_whole pm_law_whole cd_law_whole ct_law_whole : Value} {f_law_whole : Addr}
    (a_law_whole : PySem.W.nsIn K mainGlobals "_law_whole" = some (some (.ref f_law_whole)))
    (l_law_whole : K.lookup f_law_whole = some ⟨oc_law_whole, od_law_whole, .func (PySem.W.fnOf "_law_whole" "_law_whole" (defArgs s_law_whole) (defBody s_law_whole) (defScope s_law_whole) .none kV_law_whole dc_law_whole pm_law_whole an_law_whole cd_law_whole ct_law_whole), sl_law_whole⟩) (c_law_whole : PySem.W.codeIn K cd_law_whole "_law_whole" = true) (k_law_whole : PySem.W.keepIn K (.ref f_law_whole) = true)
    {oc_law_cell_at : Value} {od_law_cell_at an_law_cell_at : Option Addr} {sl_law_cell_at : Array (Option Value)} {kV_law_cell_at dc_law_cell_at pm_law_cell_at cd_law_cell_at ct_law_cell_at : Value} {f_law_cell_at : Addr}
    (a_law_cell_at : PySem.W.nsIn K mainGlobals "_law_cell_at" = some (some (.ref f_law_cell_at)))
    (l_law_cell_at : K.lookup f_law_cell_at = some ⟨oc_law_cell_at, od_law_cell_at, .func (PySem.W.fnOf "_law_cell_at" "_law_cell_at" (defArgs s_law_cell_at) (defBody s_law_cell_at) (defScope s_law_cell_at) .none kV_law_cell_at dc_law_cell_at pm_law_cell_at an_law_cell_at cd_law_cell_at ct_law_cell_at), sl_law_cell_at⟩) (c_law_cell_at : PySem.W.codeIn K cd_law_cell_at "_law_cell_at" = true) (k_law_cell_at : PySem.W.keepIn K (.ref f_law_cell_at) = true)
    {oc_law_many_by : Value} {od_law_many_by an_law_many_by : Option Addr} {sl_law_many_by : Array (Option Value)} {kV_law_many_by dc_law_many_by pm_law_many_by cd_law_many_by ct_law_many_by : Value} {f_law_many_by : Addr}
    (a_law_many_by : PySem.W.nsIn K mainGlobals "_law_many_by" = some (some (.ref f_law_many_by)))
    (l_law_many_by : K.lookup f_law_many_by = some ⟨oc_law_many_by, od_law_many_by, .func (PySem.W.fnOf "_law_many_by" "_law_many_by" (defArgs s_law_many_by) (defBody s_law_many_by) (defScope s_law_many_by) .none kV_law_many_by dc_law_many_by pm_law_many_by an_law_many_by cd_law_many_by ct_law_many_by), sl_law_many_by⟩) (c_law_many_by : PySem.W.codeIn K cd_law_many_by "_law_many_by" = true) (k_law_many_by : PySem.W.keepIn K (.ref f_law_many_by) = true)
    {oc_law_signs_by : Value} {od_law_signs_by an_law_signs_by : Option Addr} {sl_law_signs_by : Array (Option Value)} {kV_law_signs_by dc_law_signs_by pm_law_signs_by cd_law_signs_by ct_law_signs_by : Value} {f_law_signs_by : Addr}
    (a_law_signs_by : PySem.W.nsIn K mainGlobals "_law_signs_by" = some (some (.ref f_law_signs_by)))
    (l_law_signs_by : K.lookup f_law_signs_by = some ⟨oc_law_signs_by, od_law_signs_by, .func (PySem.W.fnOf "_law_signs_by" "_law_signs_by" (defArgs s_law_signs_by) (defBody s_law_signs_by) (defScope s_law_signs_by) .none kV_law_signs_by dc_law_signs_by pm_law_signs_by an_law_signs_by cd_law_signs_by ct_law_signs_by), sl_law_signs_by⟩) (c_law_signs_by : PySem.W.codeIn K cd_law_signs_by "_law_signs_by" = true) (k_law_signs_by : PySem.W.keepIn K (.ref f_law_signs_by) = true)
    {oc_law_numbers_alike : Value} {od_law_numbers_alike an_law_numbers_alike : Option Addr} {sl_law_numbers_alike : Array (Option Value)} {kV_law_numbers_alike dc_law_numbers_alike pm_law_numbers_alike cd_law_numbers_alike ct_law_numbers_alike : Value} {f_law_numbers_alike : Addr}
    (a_law_numbers_alike : PySem.W.nsIn K mainGlobals "_law_numbers_alike" = some (some (.ref f_law_numbers_alike)))
    (l_law_numbers_alike : K.lookup f_law_numbers_alike = some ⟨oc_law_numbers_alike, od_law_numbers_alike, .func (PySem.W.fnOf "_law_numbers_alike" "_law_numbers_alike" (defArgs s_law_numbers_alike) (defBody s_law_numbers_alike) (defScope s_law_numbers_alike) .none kV_law_numbers_alike dc_law_numbers_alike pm_law_numbers_alike an_law_numbers_alike cd_law_numbers_alike ct_law_numbers_alike), sl_law_numbers_alike⟩) (c_law_numbers_alike : PySem.W.codeIn K cd_law_numbers_alike "_law_numbers_alike" = true) (k_law_numbers_alike : PySem.W.keepIn K (.ref f_law_numbers_alike) = true)
    {oc_law_counts_by : Value} {od_law_counts_by an_law_counts_by : Option Addr} {sl_law_counts_by : Array (Option Value)} {kV_law_counts_by dc_law_counts_by pm_law_counts_by cd_law_counts_by ct_law_counts_by : Value} {f_law_counts_by : Addr}
    (a_law_counts_by : PySem.W.nsIn K mainGlobals "_law_counts_by" = some (some (.ref f_law_counts_by)))
    (l_law_counts_by : K.lookup f_law_counts_by = some ⟨oc_law_counts_by, od_law_counts_by, .func (PySem.W.fnOf "_law_counts_by" "_law_counts_by" (defArgs s_law_counts_by) (defBody s_law_counts_by) (defScope s_law_counts_by) .none kV_law_counts_by dc_law_counts_by pm_law_counts_by an_law_counts_by cd_law_counts_by ct_law_counts_by), sl_law_counts_by⟩) (c_law_counts_by : PySem.W.codeIn K cd_law_counts_by "_law_counts_by" = true) (k_law_counts_by : PySem.W.keepIn K (.ref f_law_counts_by) = true)
    {oc_law : Value} {od_law an_law : Option Addr} {sl_law : Array (Option Value)} {kV_law dc_law pm_law cd_law ct_law : Value} {f_law : Addr}
    (a_law : PySem.W.nsIn K mainGlobals "law" = some (some (.ref f_law)))
    (l_law : K.lookup f_law = some ⟨oc_law, od_law, .func (PySem.W.fnOf "law" "law" (defArgs s_law) (defBody s_law) (defScope s_law) .none kV_law dc_law pm_law an_law cd_law ct_law), sl_law⟩) (c_law : PySem.W.codeIn K cd_law "law" = true) (k_law : PySem.W.keepIn K (.ref f_law) = true)
    (n_bool : PySem.W.nsIn K mainGlobals "bool" = some none)
    (n_int : PySem.W.nsIn K mainGlobals "int" = some none)
    (n_isinstance : PySem.W.nsIn K mainGlobals "isinstance" = some none)
    (n_len : PySem.W.nsIn K mainGlobals "len" = some none)
    (n_list : PySem.W.nsIn K mainGlobals "list" = some none)
    (n_range : PySem.W.nsIn K mainGlobals "range" = some none)
    (n_zip : PySem.W.nsIn K mainGlobals "zip" = some none) :
    ∃ fd : FuncData, (∀ (s : Shared) (v : Value), BindsTo s fd ⟨[v], []⟩ [("_law_script", v)]) ∧ ∀ base : Heap, K.In base → base.Ns mainGlobals mg → FnOk l.prog w K mg base CX0 3 fa fd ["_law_script"] (sp_law K) := by
  have e := hfa.symm.trans (PySem.W.mg_of X G a_law)
  cases e
  have F_counted := fun_mk (st := s_counted) l_counted c_counted k_counted
  have b_counted := F_counted.binds (ps := ["signs", "block"]) fun _ _ _ _ _ _ us hl => match us, hl with | [_, _], _ => rfl
  have F_law_whole := fun_mk (st := s_law_whole) l_law_whole c_law_whole k_law_whole
  have b_law_whole := F_law_whole.binds (ps := ["_law_found"]) fun _ _ _ _ _ _ us hl => match us, hl with | [_], _ => rfl
  have F_law_cell_at := fun_mk (st := s_law_cell_at) l_law_cell_at c_law_cell_at k_law_cell_at
  have b_law_cell_at := F_law_cell_at.binds (ps := ["_law_script", "_law_k"]) fun _ _ _ _ _ _ us hl => match us, hl with | [_, _], _ => rfl
  have F_law_many_by := fun_mk (st := s_law_many_by) l_law_many_by c_law_many_by k_law_many_by
  have b_law_many_by := F_law_many_by.binds (ps := ["_law_cell"]) fun _ _ _ _ _ _ us hl => match us, hl with | [_], _ => rfl
  have F_law_signs_by := fun_mk (st := s_law_signs_by) l_law_signs_by c_law_signs_by k_law_signs_by
  have b_law_signs_by := F_law_signs_by.binds (ps := ["_law_cell", "_law_many"]) fun _ _ _ _ _ _ us hl => match us, hl with | [_, _], _ => rfl
  have F_law_numbers_alike := fun_mk (st := s_law_numbers_alike) l_law_numbers_alike c_law_numbers_alike k_law_numbers_alike
  have b_law_numbers_alike := F_law_numbers_alike.binds (ps := ["_law_found", "_law_due"]) fun _ _ _ _ _ _ us hl => match us, hl with | [_, _], _ => rfl
  have F_law_counts_by := fun_mk (st := s_law_counts_by) l_law_counts_by c_law_counts_by k_law_counts_by
  have b_law_counts_by := F_law_counts_by.binds (ps := ["_law_signs", "_law_block"]) fun _ _ _ _ _ _ us hl => match us, hl with | [_, _], _ => rfl
  have F_law := fun_mk (st := s_law) l_law c_law k_law
  have b_law := F_law.binds (ps := ["_law_script"]) fun _ _ _ _ _ _ us hl => match us, hl with | [_], _ => rfl
  let A : Adr := { f_counted := f_counted, d_counted := (PySem.W.fnOf "counted" "counted" (defArgs s_counted) (defBody s_counted) (defScope s_counted) .none kV_counted dc_counted pm_counted an_counted cd_counted ct_counted), f_law_whole := f_law_whole, d_law_whole := (PySem.W.fnOf "_law_whole" "_law_whole" (defArgs s_law_whole) (defBody s_law_whole) (defScope s_law_whole) .none kV_law_whole dc_law_whole pm_law_whole an_law_whole cd_law_whole ct_law_whole), f_law_cell_at := f_law_cell_at, d_law_cell_at := (PySem.W.fnOf "_law_cell_at" "_law_cell_at" (defArgs s_law_cell_at) (defBody s_law_cell_at) (defScope s_law_cell_at) .none kV_law_cell_at dc_law_cell_at pm_law_cell_at an_law_cell_at cd_law_cell_at ct_law_cell_at), f_law_many_by := f_law_many_by, d_law_many_by := (PySem.W.fnOf "_law_many_by" "_law_many_by" (defArgs s_law_many_by) (defBody s_law_many_by) (defScope s_law_many_by) .none kV_law_many_by dc_law_many_by pm_law_many_by an_law_many_by cd_law_many_by ct_law_many_by), f_law_signs_by := f_law_signs_by, d_law_signs_by := (PySem.W.fnOf "_law_signs_by" "_law_signs_by" (defArgs s_law_signs_by) (defBody s_law_signs_by) (defScope s_law_signs_by) .none kV_law_signs_by dc_law_signs_by pm_law_signs_by an_law_signs_by cd_law_signs_by ct_law_signs_by), f_law_numbers_alike := f_law_numbers_alike, d_law_numbers_alike := (PySem.W.fnOf "_law_numbers_alike" "_law_numbers_alike" (defArgs s_law_numbers_alike) (defBody s_law_numbers_alike) (defScope s_law_numbers_alike) .none kV_law_numbers_alike dc_law_numbers_alike pm_law_numbers_alike an_law_numbers_alike cd_law_numbers_alike ct_law_numbers_alike), f_law_counts_by := f_law_counts_by, d_law_counts_by := (PySem.W.fnOf "_law_counts_by" "_law_counts_by" (defArgs s_law_counts_by) (defBody s_law_counts_by) (defScope s_law_counts_by) .none kV_law_counts_by dc_law_counts_by pm_law_counts_by an_law_counts_by cd_law_counts_by ct_law_counts_by), f_law := fa, d_law := (PySem.W.fnOf "law" "law" (defArgs s_law) (defBody s_law) (defScope s_law) .none kV_law dc_law pm_law an_law cd_law ct_law) }
  have T : Txt K mg A := { F_counted := F_counted, b_counted := b_counted, g_counted := PySem.W.mg_of X G a_counted, F_law_whole := F_law_whole, b_law_whole := b_law_whole, g_law_whole := PySem.W.mg_of X G a_law_whole, F_law_cell_at := F_law_cell_at, b_law_cell_at := b_law_cell_at, g_law_cell_at := PySem.W.mg_of X G a_law_cell_at, F_law_many_by := F_law_many_by, b_law_many_by := b_law_many_by, g_law_many_by := PySem.W.mg_of X G a_law_many_by, F_law_signs_by := F_law_signs_by, b_law_signs_by := b_law_signs_by, g_law_signs_by := PySem.W.mg_of X G a_law_signs_by, F_law_numbers_alike := F_law_numbers_alike, b_law_numbers_alike := b_law_numbers_alike, g_law_numbers_alike := PySem.W.mg_of X G a_law_numbers_alike, F_law_counts_by := F_law_counts_by, b_law_counts_by := b_law_counts_by, g_law_counts_by := PySem.W.mg_of X G a_law_counts_by, F_law := F_law, b_law := b_law, g_law := PySem.W.mg_of X G a_law, n_bool := PySem.W.mg_none_of X G n_bool, n_int := PySem.W.mg_none_of X G n_int, n_isinstance := PySem.W.mg_none_of X G n_isinstance, n_len := PySem.W.mg_none_of X G n_len, n_list := PySem.W.mg_none_of X G n_list, n_range := PySem.W.mg_none_of X G n_range, n_zip := PySem.W.mg_none_of X G n_zip }
  exact ⟨(PySem.W.fnOf "law" "law" (defArgs s_law) (defBody s_law) (defScope s_law) .none kV_law dc_law pm_law an_law cd_law ct_law), fun s v => .of_eq rfl, fun base _ _ => ok_law T⟩
theorem walk {l : PySem.W.OpenLaw} {q : Program} {loose : List Str} {XP : (Str → Option Value) → Heap → Prop} {YP : World → Heap → Prop} {d : DefRec} {K : Params → PySem.W.Frag} (hn : l.most = some 63) (hdf : d.params.defaults = [])
    (hY : ∀ (w : World) (h : Heap), YP w h → (K w.params).In h)
    (F : ∀ (w : World) (mg : Str → Option Value) (fa : Addr) (h : Heap), (K w.params).In h → h.Ns mainGlobals mg → mg d.name = some (.ref fa) →
      ∃ fd : FuncData, (∀ (s : Shared) (u : Value), BindsTo s fd ⟨[u], []⟩ [("_law_script", u)]) ∧ ∀ base : Heap, (K w.params).In base → base.Ns mainGlobals mg → FnOk l.prog w (K w.params) mg base CX0 3 fa fd ["_law_script"] (sp_law (K w.params))) :
    PySem.W.WalkO q loose XP YP l.row.toRowW d [] (fun f vs => PySem.call f vs) :=
  L2.walk_of (n := 63) (k := 3) (x := "_law_script") (CX := fun _ => CX0) (sp := fun w => sp_law (K w.params)) hn (by decide) hdf ⟨rfl, by decide, by decide⟩ hY F (fun _ _ a ns hl _ hS => ⟨a, ns, rfl, hS, hl, fun _ => rfl⟩) fun _ _ _ _ _ z => z
end Sp
open PySem PySem.W PyProof.Rows in
set_option maxRecDepth 100000 in
set_option maxHeartbeats 0 in
theorem PySem.Challenge.cw_sharepack_k02_signs_counted_holds : PySem.Challenge.rw_sharepack_k02_signs_counted.Holds := by
  w_on; o_law; k_head; (case hw => w_witness2)
  k_fill
  refine Sp.walk (l := PySem.Challenge.rw_sharepack_k02_signs_counted) rfl rfl (fun w h Y => PySem.W.kIn_of Y) ?F
  case F =>
    intro w mg fa h KX G hmg
    refine' Sp.all_mk KX G hmg ?a_counted ?l_counted ?c_counted ?k_counted ?a_law_whole ?l_law_whole ?c_law_whole ?k_law_whole ?a_law_cell_at ?l_law_cell_at ?c_law_cell_at ?k_law_cell_at ?a_law_many_by ?l_law_many_by ?c_law_many_by ?k_law_many_by ?a_law_signs_by ?l_law_signs_by ?c_law_signs_by ?k_law_signs_by ?a_law_numbers_alike ?l_law_numbers_alike ?c_law_numbers_alike ?k_law_numbers_alike ?a_law_counts_by ?l_law_counts_by ?c_law_counts_by ?k_law_counts_by ?a_law ?l_law ?c_law ?k_law ?n_bool ?n_int ?n_isinstance ?n_len ?n_list ?n_range ?n_zip
    (case a_counted => k_is)
    (case l_counted => k_is)
    (case c_counted => k_is)
    (case k_counted => k_is)
    (case a_law_whole => k_is)
    (case l_law_whole => k_is)
    (case c_law_whole => k_is)
    (case k_law_whole => k_is)
    (case a_law_cell_at => k_is)
    (case l_law_cell_at => k_is)
    (case c_law_cell_at => k_is)
    (case k_law_cell_at => k_is)
    (case a_law_many_by => k_is)
    (case l_law_many_by => k_is)
    (case c_law_many_by => k_is)
    (case k_law_many_by => k_is)
    (case a_law_signs_by => k_is)
    (case l_law_signs_by => k_is)
    (case c_law_signs_by => k_is)
    (case k_law_signs_by => k_is)
    (case a_law_numbers_alike => k_is)
    (case l_law_numbers_alike => k_is)
    (case c_law_numbers_alike => k_is)
    (case k_law_numbers_alike => k_is)
    (case a_law_counts_by => k_is)
    (case l_law_counts_by => k_is)
    (case c_law_counts_by => k_is)
    (case k_law_counts_by => k_is)
    (case a_law => k_is)
    (case l_law => k_is)
    (case c_law => k_is)
    (case k_law => k_is)
    (case n_bool => k_is)
    (case n_int => k_is)
    (case n_isinstance => k_is)
    (case n_len => k_is)
    (case n_list => k_is)
    (case n_range => k_is)
    (case n_zip => k_is)
#print axioms PySem.Challenge.cw_sharepack_k02_signs_counted_holds

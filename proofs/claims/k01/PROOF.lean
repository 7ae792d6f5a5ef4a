import PyProof.Rows.All
import Wide.All
import OpenK.AllK
import Wide.FinOn
import HandS.CallRecv
import HandS.FStr
import HandS.ForMost
import HandS.IsInst
import HandS.Replace
import HandS.RevRange
import HandS.SortRule
import HandS.Walk
import PySem.Challenge.RW_sharepack_k01_a_block_learnt
set_option Elab.async false
set_option linter.all false
set_option maxRecDepth 100000
set_option maxHeartbeats 4000000
/-! ## The walk's steps: one lemma a reading, so that a reading is walked by apply -/
namespace Sp
open PySem L2
section
variable {K : PySem.W.Frag} {σ : L2.St} {H H1 : Hp} {ta tb tc te : TE} {x y v : V} {Q : VK} {D : Ends} {t u : TS} {c d : TT} {r : R2}
theorem w_var {i : Nat} (h : σ[i]? = some (some v)) (q : Q v H) : tVar i σ H Q := ⟨v, h, q⟩
theorem w_c (q : Q v H) : tC v σ H Q := q
theorem w_op (h : ta σ H fun x H1 => tb σ H1 fun y H2 => r x y H2 Q) : tOp r ta tb σ H Q := h
theorem w_un {r : V → Hp → VK → Prop} (h : ta σ H fun x H1 => r x H1 Q) : tUn r ta σ H Q := h
theorem w_neg {g : Int → V} {i : Int} (q : Q (g i) H) : rU g (.int i) H Q := ⟨i, rfl, q⟩
theorem w_I0 {g : Int → Int → V} {i j : Int} (q : Q (g i j) H) : rI0 g (.int i) (.int j) H Q := ⟨i, j, rfl, rfl, q⟩
theorem w_I {C : Int → Int → Prop} {g : Int → Int → V} {i j : Int} (h : C i j) (q : Q (g i j) H) : rI C g (.int i) (.int j) H Q := ⟨i, j, rfl, rfl, h, q⟩
theorem w_eq (h : scal x y = true) (q : Q (.bl (decide (x = y))) H) : rEq x y H Q := ⟨h, q⟩
theorem w_ne (h : scal x y = true) (q : Q (.bl (!decide (x = y))) H) : rNe x y H Q := ⟨h, q⟩
theorem w_addS {P : Str → Str → Prop} {i j : Str} (h : i.length + j.length ≤ sizeLine) (q : P i j) : ∃ i' j', V.str i = .str i' ∧ V.str j = .str j' ∧ i'.length + j'.length ≤ sizeLine ∧ P i' j' := ⟨i, j, rfl, rfl, h, q⟩
theorem w_rfl {x : V} {P : Prop} (q : P) : x = x ∧ P := ⟨rfl, q⟩
theorem w_inS {P : Nat → Str → Prop} {c : Nat} {z : Str} (q : P c z) : ∃ c' z', V.str ⟨#[c]⟩ = .str ⟨#[c']⟩ ∧ V.str z = .str z' ∧ P c' z' := ⟨c, z, rfl, rfl, q⟩
theorem w_ints2 {P : Int → Int → Prop} {i j : Int} (q : P i j) : ∃ i' j', [V.int i, V.int j] = [.int i', .int j'] ∧ P i' j' := ⟨i, j, rfl, q⟩
theorem w_ord {P : Str → Prop} {z : Str} (h : z.length = 1) (q : P z) : ∃ z', [V.str z] = [.str z'] ∧ z'.length = 1 ∧ P z' := ⟨z, rfl, h, q⟩
theorem w_strI {P : Int → Prop} {i : Int} (h : i.natAbs.log2 < 1920) (q : P i) : ∃ i', [V.int i] = [.int i'] ∧ i'.natAbs.log2 < 1920 ∧ P i' := ⟨i, rfl, h, q⟩
theorem w_int1 {P : Int → Prop} {R : Bool → Prop} {i : Int} (q : P i) : (∃ i', [V.int i] = [.int i'] ∧ P i') ∨ ∃ k, [V.int i] = [.bl k] ∧ R k := .inl ⟨i, rfl, q⟩
theorem w_int1b {P : Int → Prop} {R : Bool → Prop} {k : Bool} (q : R k) : (∃ i', [V.bl k] = [.int i'] ∧ P i') ∨ ∃ k', [V.bl k] = [.bl k'] ∧ R k' := .inr ⟨k, rfl, q⟩
theorem w_chain {r r' : R2} (h : ta σ H fun x H1 => tb σ H1 fun y H2 => r x y H2 fun z H3 => ∃ k, z = .bl k ∧ (if k = true then tc σ H3 fun w' H4 => r' y w' H4 Q else Q (.bl false) H3)) : tChain r r' ta tb tc σ H Q := h
theorem w_andV (h : ta σ H fun x H1 => ∃ c, x = .bl c ∧ if c = true then tb σ H1 Q else Q (.bl false) H1) : tAndV ta tb σ H Q := h
theorem w_orV (h : ta σ H fun x H1 => ∃ c, x = .bl c ∧ if c = true then Q (.bl true) H1 else tb σ H1 Q) : tOrV ta tb σ H Q := h
theorem w_notV (h : ta σ H fun x H1 => ∃ c, x = .bl c ∧ Q (.bl (!c)) H1) : tNotV ta σ H Q := h
theorem w_test {Q : Bool → Hp → Prop} (h : ta σ H fun x H' => ∃ k, x = .bl k ∧ Q k H') : tTest ta σ H Q := h
theorem w_B {Q : Bool → Hp → Prop} (h : ta σ H fun x H' => ∃ k, x = .bl k ∧ Q k H') : tB ta σ H Q := h
theorem w_and {Q : Bool → Hp → Prop} (h : c σ H fun k H1 => if k = true then d σ H1 Q else Q false H1) : tAnd c d σ H Q := h
theorem w_or {Q : Bool → Hp → Prop} (h : c σ H fun k H1 => if k = true then Q true H1 else d σ H1 Q) : tOr c d σ H Q := h
theorem w_not {Q : Bool → Hp → Prop} (h : c σ H fun k H1 => Q (!k) H1) : tNot c σ H Q := h
theorem w_bl {P : Bool → Prop} {b : Bool} (q : P b) : ∃ k, V.bl b = V.bl k ∧ P k := ⟨b, rfl, q⟩
theorem w_if {A B : TE} (h : c σ H fun k H1 => if k = true then A σ H1 Q else B σ H1 Q) : tIf c A B σ H Q := h
theorem w_nil {Q : List V → Hp → Prop} (q : Q [] H) : tNil σ H Q := q
theorem w_cons {tr : TA} {Q : List V → Hp → Prop} (h : ta σ H fun x H1 => tr σ H1 fun xs H2 => Q (x :: xs) H2) : tCons ta tr σ H Q := h
theorem w_tup {a : TA} (h : a σ H fun xs H1 => xs.length ≤ sizeLine ∧ ∀ p, H1 p = none → Q (.ref p) (upd H1 p (.tup xs))) : tTup a σ H Q := h
theorem w_lst {a : TA} (h : a σ H fun xs H1 => xs.length ≤ sizeLine ∧ ∀ p, H1 p = none → Q (.ref p) (upd H1 p (.lst xs))) : tLst a σ H Q := h
theorem w_call {sp : L2.Sp} {E : XK} {a : TA} (h : a σ H fun vs H1 => sp vs H1 Q E) : tCall sp [] E a σ H Q :=
  cast (congrArg (fun (k : List V → Hp → Prop) => a σ H k) (funext fun vs => funext fun H1 => by show sp vs H1 Q E = sp (vs ++ []) H1 Q E; rw [List.append_nil])) h
theorem w_cb {r : List V → Hp → VK → Prop} {a : TA} (h : a σ H fun vs H1 => r vs H1 Q) : tCB r a σ H Q := h
theorem w_fld {f : Str} (h : ta σ H fun x H1 => ∃ a C dx fs v, x = .ref a ∧ H1 a = some (.ins C dx fs) ∧ Cls K C ∧ NoAttr K C f ∧ fs.lookup f = some v ∧ Q v H1) : tFld K ta f σ H Q := h
theorem w_fld1 {f : Str} {P : Addr → Addr → Addr → List (Str × V) → V → Prop} {a C dx : Addr} {fs : List (Str × V)} (h : H a = some (.ins C dx fs)) (c : Cls K C) (n : NoAttr K C f) (l : fs.lookup f = some v) (q : P a C dx fs v) :
    ∃ a' C dx fs v, V.ref a = .ref a' ∧ H a' = some (.ins C dx fs) ∧ Cls K C ∧ NoAttr K C f ∧ fs.lookup f = some v ∧ P a' C dx fs v := ⟨a, C, dx, fs, v, rfl, h, c, n, l, q⟩
theorem w_asg {i : Nat} (h : te σ H fun x H1 => D.nx (σ.set i (some x)) H1) : tAsg te (gName i) D σ H := h
theorem w_asgG {g : TG} (h : te σ H fun x H1 => g x σ H1 D.nx) : tAsg te g D σ H := h
theorem w_gname {i : Nat} {Q : L2.St → Hp → Prop} (q : Q (σ.set i (some v)) H) : gName i v σ H Q := q
theorem w_ret (h : te σ H D.rt) : tRet te D σ H := h
theorem w_retN (h : D.rt .non H) : tRetN D σ H := h
theorem w_seq (h : t { D with nx := u D } σ H) : tSeq t u D σ H := h
theorem w_next (h : D.nx σ H) : tNext D σ H := h
theorem w_brk (h : D.bk σ H) : tBreak D σ H := h
theorem w_cont (h : D.ct σ H) : tCont D σ H := h
theorem w_drop (h : te σ H fun _ H1 => D.nx σ H1) : tDrop te D σ H := h
theorem w_ifS (h : c σ H fun b H1 => if b = true then t D σ H1 else u D σ H1) : tIfS c t u D σ H := h
theorem w_iteT {A B : Prop} (q : A) : if true = true then A else B := by rw [if_pos rfl]; exact q
theorem w_iteF {A B : Prop} (q : B) : if false = true then A else B := by rw [if_neg Bool.false_ne_true]; exact q
theorem w_iteNF {A B : Prop} (q : A) : if (!false) = true then A else B := by rw [Bool.not_false, if_pos rfl]; exact q
theorem w_iteNT {A B : Prop} (q : B) : if (!true) = true then A else B := by rw [Bool.not_true, if_neg Bool.false_ne_true]; exact q
theorem w_ite {p A B : Prop} [Decidable p] (h1 : p → A) (h2 : ¬ p → B) : if decide p = true then A else B := by
  by_cases h : p
  · rw [if_pos (decide_eq_true h)]; exact h1 h
  · rw [if_neg (by rw [decide_eq_false h]; exact Bool.false_ne_true)]; exact h2 h
theorem w_iteN {p A B : Prop} [Decidable p] (h1 : ¬ p → A) (h2 : p → B) : if (!decide p) = true then A else B := by
  by_cases h : p
  · rw [decide_eq_true h]; exact w_iteF (h2 h)
  · rw [decide_eq_false h]; exact w_iteT (h1 h)
theorem w_iteB {b : Bool} {A B : Prop} (h1 : b = true → A) (h2 : b = false → B) : if b = true then A else B := by
  cases b with
  | true => exact w_iteT (h1 rfl)
  | false => exact w_iteF (h2 rfl)
theorem w_iteK {b : Bool} {A B : Prop} (h : b = true) (q : A) : if b = true then A else B := by rw [h]; exact w_iteT q
theorem w_iteKF {b : Bool} {A B : Prop} (h : b = false) (q : B) : if b = true then A else B := by rw [h]; exact w_iteF q
theorem w_ixL {p : Addr} {xs : List V} {i : Int} (h : SqL K H p xs) (ha : atI xs i = some v) (q : Q v H) : rIxL K (.ref p) (.int i) H Q := ⟨p, xs, i, v, rfl, rfl, h, ha, q⟩
theorem w_ixT {p : Addr} {xs : List V} {i : Int} (h : SqT K H p xs) (ha : atI xs i = some v) (q : Q v H) : rIxT K (.ref p) (.int i) H Q := ⟨p, xs, i, v, rfl, rfl, h, ha, q⟩
theorem w_ixS {z : Str} {i : Int} {c : Nat} (h : z.length ≤ sizeLine) (ha : atI z.cps.toList i = some c) (q : Q (.str ⟨#[c]⟩) H) : rIxS (.str z) (.int i) H Q := ⟨z, i, c, rfl, rfl, h, ha, q⟩
theorem w_lenS {P : Addr → List V → Prop} {p : Addr} {ys : List V} (h : SqL K H p ys) (q : P p ys) : ∃ p' ys', [V.ref p] = [.ref p'] ∧ (SqL K H p' ys' ∨ SqT K H p' ys') ∧ P p' ys' := ⟨p, ys, rfl, .inl h, q⟩
theorem w_lenU {P : Addr → List V → Prop} {p : Addr} {ys : List V} (h : SqT K H p ys) (q : P p ys) : ∃ p' ys', [V.ref p] = [.ref p'] ∧ (SqL K H p' ys' ∨ SqT K H p' ys') ∧ P p' ys' := ⟨p, ys, rfl, .inr h, q⟩
theorem w_lenT {P : Str → Prop} {z : Str} (h : z.length ≤ sizeLine) (q : P z) : ∃ z', [V.str z] = [.str z'] ∧ z'.length ≤ sizeLine ∧ P z' := ⟨z, rfl, h, q⟩
theorem w_sl {r : V → Option Int → Option Int → Hp → VK → Prop} {tl th : TO} (h : te σ H fun x H1 => tl σ H1 fun l H2 => th σ H2 fun u H3 => r x l u H3 Q) : tSl r te tl th σ H Q := h
theorem w_nopart {Q : Option Int → Hp → Prop} (q : Q none H) : tNoPart σ H Q := q
theorem w_part {Q : Option Int → Hp → Prop} (h : ta σ H fun x H1 => ∃ i, x = .int i ∧ Q (some i) H1) : tPart ta σ H Q := h
theorem w_new {o : HO} (h : ∀ p H1, Same H H1 → H p = none → H1 p = some o → Q (.ref p) H1) : ∀ p, H p = none → Q (.ref p) (upd H p o) := fun p hp =>
  h p _ (fun a u e => by rw [upd_ne (ne_of_none e hp)]; exact e) hp upd_same
theorem w_newB {o : HO} {R : Addr → Hp → Prop} (h : ∀ p H1, Same H H1 → H p = none → H1 p = some o → R p H1) : ∀ p, H p = none → R p (upd H p o) := fun p hp =>
  h p _ (fun a u e => by rw [upd_ne (ne_of_none e hp)]; exact e) hp upd_same
theorem w_int {P : Int → Prop} {i : Int} (q : P i) : ∃ j, V.int i = .int j ∧ P j := ⟨i, rfl, q⟩
theorem w_bm {T : String} {r : V → List V → Hp → VK → Prop} {a : TA} (h : te σ H fun x H1 => tyV K T x H1 ∧ a σ H1 fun xs H2 => r x xs H2 Q) : tBM K T r te a σ H Q := h
theorem w_bm0 {T : String} {r : V → List V → Hp → VK → Prop} (h : te σ H fun x H1 => tyV K T x H1 ∧ r x [] H1 Q) : tBM0 K T r te σ H Q := h
theorem w_sfld {tv : TE} {f : Str} (h : tv σ H fun y H1 => ta σ H1 fun x H2 => ∃ a C dx fs, x = .ref a ∧ H2 a = some (.ins C dx fs) ∧ Cls K C ∧ NoAttr K C f ∧ fs.length < 1000 ∧ D.nx σ (upd H2 a (.ins C dx (putF f y fs)))) : sFld K ta tv f D σ H := h
theorem w_isi {x c : V} {t u : Value} {b : Bool} (h1 : ClsV c u) (h2 : TyX K H x t) (h3 : PySem.W.kitOne K t u = some b) (q : Q (.bl b) H) : rIsi K [x, c] H Q := ⟨x, c, t, u, b, rfl, h1, h2, h3, q⟩
theorem w_sum {a : Addr} {ns : List Int} (h : SqL K H a (ns.map V.int)) (q : Q (.int ns.sum) H) : rSum K [.ref a] H Q := ⟨a, ns, rfl, h, q⟩
end
theorem w_iteI {a b : Int} {A B : Prop} (h1 : a = b → A) (h2 : a ≠ b → B) : if decide (V.int a = V.int b) = true then A else B := w_ite (fun h => h1 (V.int.inj h)) fun h => h2 fun e => h (congrArg V.int e)
theorem w_iteNI {a b : Int} {A B : Prop} (h1 : a ≠ b → A) (h2 : a = b → B) : if (!decide (V.int a = V.int b)) = true then A else B := w_iteN (fun h => h1 fun e => h (congrArg V.int e)) fun h => h2 (V.int.inj h)
theorem w_iteS {a b : Str} {A B : Prop} (h1 : a = b → A) (h2 : a ≠ b → B) : if decide (V.str a = V.str b) = true then A else B := w_ite (fun h => h1 (V.str.inj h)) fun h => h2 fun e => h (congrArg V.str e)
theorem w_iteNS {a b : Str} {A B : Prop} (h1 : a ≠ b → A) (h2 : a = b → B) : if (!decide (V.str a = V.str b)) = true then A else B := w_iteN (fun h => h1 fun e => h (congrArg V.str e)) fun h => h2 (V.str.inj h)
theorem w_isiT {x : V} {t T : String} {b : Bool} (h : TyX K H x (.type t)) (hk : kitB t T = some b) (q : Q (.bl b) H) : rIsi K [x, .ty T] H Q := ⟨x, .ty T, .type t, .type T, b, rfl, .ty T, h, kit_ty hk, q⟩
theorem isi_int_int {i : Int} (q : Q (.bl true) H) : rIsi K [.int i, .ty "int"] H Q := w_isiT (.base (.int i)) (b := true) (by decide +kernel) q
theorem isi_int_bool {i : Int} (q : Q (.bl false) H) : rIsi K [.int i, .ty "bool"] H Q := w_isiT (.base (.int i)) (b := false) (by decide +kernel) q
theorem isi_int_str {i : Int} (q : Q (.bl false) H) : rIsi K [.int i, .ty "str"] H Q := w_isiT (.base (.int i)) (b := false) (by decide +kernel) q
theorem isi_int_list {i : Int} (q : Q (.bl false) H) : rIsi K [.int i, .ty "list"] H Q := w_isiT (.base (.int i)) (b := false) (by decide +kernel) q
theorem isi_int_tuple {i : Int} (q : Q (.bl false) H) : rIsi K [.int i, .ty "tuple"] H Q := w_isiT (.base (.int i)) (b := false) (by decide +kernel) q
theorem isi_bl_int {b : Bool} (q : Q (.bl true) H) : rIsi K [.bl b, .ty "int"] H Q := w_isiT (.base (.bl b)) (b := true) (by decide +kernel) q
theorem isi_bl_bool {b : Bool} (q : Q (.bl true) H) : rIsi K [.bl b, .ty "bool"] H Q := w_isiT (.base (.bl b)) (b := true) (by decide +kernel) q
theorem isi_bl_str {b : Bool} (q : Q (.bl false) H) : rIsi K [.bl b, .ty "str"] H Q := w_isiT (.base (.bl b)) (b := false) (by decide +kernel) q
theorem isi_bl_list {b : Bool} (q : Q (.bl false) H) : rIsi K [.bl b, .ty "list"] H Q := w_isiT (.base (.bl b)) (b := false) (by decide +kernel) q
theorem isi_bl_tuple {b : Bool} (q : Q (.bl false) H) : rIsi K [.bl b, .ty "tuple"] H Q := w_isiT (.base (.bl b)) (b := false) (by decide +kernel) q
theorem isi_non_int  (q : Q (.bl false) H) : rIsi K [.non, .ty "int"] H Q := w_isiT (.base (.non)) (b := false) (by decide +kernel) q
theorem isi_non_bool  (q : Q (.bl false) H) : rIsi K [.non, .ty "bool"] H Q := w_isiT (.base (.non)) (b := false) (by decide +kernel) q
theorem isi_non_str  (q : Q (.bl false) H) : rIsi K [.non, .ty "str"] H Q := w_isiT (.base (.non)) (b := false) (by decide +kernel) q
theorem isi_non_list  (q : Q (.bl false) H) : rIsi K [.non, .ty "list"] H Q := w_isiT (.base (.non)) (b := false) (by decide +kernel) q
theorem isi_non_tuple  (q : Q (.bl false) H) : rIsi K [.non, .ty "tuple"] H Q := w_isiT (.base (.non)) (b := false) (by decide +kernel) q
theorem isi_str_int {z : Str} (q : Q (.bl false) H) : rIsi K [.str z, .ty "int"] H Q := w_isiT (.base (.str z)) (b := false) (by decide +kernel) q
theorem isi_str_bool {z : Str} (q : Q (.bl false) H) : rIsi K [.str z, .ty "bool"] H Q := w_isiT (.base (.str z)) (b := false) (by decide +kernel) q
theorem isi_str_str {z : Str} (q : Q (.bl true) H) : rIsi K [.str z, .ty "str"] H Q := w_isiT (.base (.str z)) (b := true) (by decide +kernel) q
theorem isi_str_list {z : Str} (q : Q (.bl false) H) : rIsi K [.str z, .ty "list"] H Q := w_isiT (.base (.str z)) (b := false) (by decide +kernel) q
theorem isi_str_tuple {z : Str} (q : Q (.bl false) H) : rIsi K [.str z, .ty "tuple"] H Q := w_isiT (.base (.str z)) (b := false) (by decide +kernel) q
theorem isi_lst_int {a : Addr} {xs : List V} (h : H a = some (.lst xs)) (q : Q (.bl false) H) : rIsi K [.ref a, .ty "int"] H Q := w_isiT (.base (.lst h)) (b := false) (by decide +kernel) q
theorem isi_lst_bool {a : Addr} {xs : List V} (h : H a = some (.lst xs)) (q : Q (.bl false) H) : rIsi K [.ref a, .ty "bool"] H Q := w_isiT (.base (.lst h)) (b := false) (by decide +kernel) q
theorem isi_lst_str {a : Addr} {xs : List V} (h : H a = some (.lst xs)) (q : Q (.bl false) H) : rIsi K [.ref a, .ty "str"] H Q := w_isiT (.base (.lst h)) (b := false) (by decide +kernel) q
theorem isi_lst_list {a : Addr} {xs : List V} (h : H a = some (.lst xs)) (q : Q (.bl true) H) : rIsi K [.ref a, .ty "list"] H Q := w_isiT (.base (.lst h)) (b := true) (by decide +kernel) q
theorem isi_lst_tuple {a : Addr} {xs : List V} (h : H a = some (.lst xs)) (q : Q (.bl false) H) : rIsi K [.ref a, .ty "tuple"] H Q := w_isiT (.base (.lst h)) (b := false) (by decide +kernel) q
theorem isi_tup_int {a : Addr} {xs : List V} (h : H a = some (.tup xs)) (q : Q (.bl false) H) : rIsi K [.ref a, .ty "int"] H Q := w_isiT (.base (.tup h)) (b := false) (by decide +kernel) q
theorem isi_tup_bool {a : Addr} {xs : List V} (h : H a = some (.tup xs)) (q : Q (.bl false) H) : rIsi K [.ref a, .ty "bool"] H Q := w_isiT (.base (.tup h)) (b := false) (by decide +kernel) q
theorem isi_tup_str {a : Addr} {xs : List V} (h : H a = some (.tup xs)) (q : Q (.bl false) H) : rIsi K [.ref a, .ty "str"] H Q := w_isiT (.base (.tup h)) (b := false) (by decide +kernel) q
theorem isi_tup_list {a : Addr} {xs : List V} (h : H a = some (.tup xs)) (q : Q (.bl false) H) : rIsi K [.ref a, .ty "list"] H Q := w_isiT (.base (.tup h)) (b := false) (by decide +kernel) q
theorem isi_tup_tuple {a : Addr} {xs : List V} (h : H a = some (.tup xs)) (q : Q (.bl true) H) : rIsi K [.ref a, .ty "tuple"] H Q := w_isiT (.base (.tup h)) (b := true) (by decide +kernel) q
theorem w_while {W : Nat → L2.St → Hp → Prop} {m0 : Nat} (h0 : W m0 σ H) (hs : ∀ m σ H, W m σ H → c σ H fun b H1 => if b = true then ∃ N : L2.St → Hp → Prop, (∀ σ' H', N σ' H' → ∃ m', m' < m ∧ W m' σ' H') ∧ t { D with nx := N, ct := N, bk := D.nx } σ H1 else D.nx σ H1) : tWhile c t D σ H := ⟨W, ⟨m0, h0⟩, hs⟩
theorem w_N {m : Nat} {W : Nat → L2.St → Hp → Prop} {R : (L2.St → Hp → Prop) → Prop} (q : R fun σ' H' => ∃ m', m' < m ∧ W m' σ' H') : ∃ N : L2.St → Hp → Prop, (∀ σ' H', N σ' H' → ∃ m', m' < m ∧ W m' σ' H') ∧ R N := ⟨_, fun _ _ h => h, q⟩
theorem w_for {wi : TI} {g : TG} (h : wi σ H fun J H1 => ∃ W : Nat → Nat → L2.St → Hp → Prop, (∃ m, W 0 m σ H1) ∧ ∀ i m σ H, W i m σ H →
  (J.stop i H ∧ D.nx σ H) ∨ (J.go i H ∧ ∃ N : L2.St → Hp → Prop, (∀ σ' H', N σ' H' → ∃ m', m' < m ∧ W (i + 1) m' σ' H') ∧ ∀ x H', J.yld i H x H' → g x σ H' fun σ2 H2 => t { D with nx := N, ct := N, bk := D.nx } σ2 H2)) : tFor wi g t D σ H := h
theorem w_lc {wi : TI} {g : TG} {vs : List Nat} (h : wi σ H fun J H1 => ∀ D, H1 D = none → ∃ W : Nat → Nat → Hp → Prop, (∃ m, W 0 m (upd H1 D (.lst []))) ∧ ∀ i m H, W i m H →
  (J.stop i H ∧ Q (.ref D) H) ∨ (J.go i H ∧ ∃ Nx : Hp → Prop, (∀ H', Nx H' → ∃ m', m' < m ∧ W (i + 1) m' H') ∧ ∀ x H', J.yld i H x H' → g x (wipe σ vs) H' fun σ2 H2 => wipe σ2 vs = wipe σ vs ∧ c σ2 H2 fun b H3 =>
    if b = true then te σ2 H3 fun y H4 => ∃ acc, H4 D = some (.lst acc) ∧ acc.length < sizeLine ∧ Nx (upd H4 D (.lst (acc ++ [y]))) else Nx H3)) : tLc wi g c te vs σ H Q := h
theorem w_iList {R : It → Hp → Prop} (h : ta σ H fun x H1 => ∃ a, x = .ref a ∧ (∃ xs, SqL K H1 a xs) ∧ R (Itl K a) H1) : iList K ta σ H R := h
theorem w_itL {R : Addr → Prop} {a : Addr} {xs : List V} (h : SqL K H a xs) (q : R a) : ∃ a', V.ref a = .ref a' ∧ (∃ xs, SqL K H a' xs) ∧ R a' := ⟨a, rfl, ⟨xs, h⟩, q⟩
theorem w_iStr {R : It → Hp → Prop} (h : ta σ H fun v H1 => ∃ x, v = .str x ∧ R (Its x) H1) : iStr ta σ H R := h
theorem w_str {R : Str → Prop} {z : Str} (q : R z) : ∃ z', V.str z = .str z' ∧ R z' := ⟨z, rfl, q⟩
theorem w_iRng1 {a : TA} {R : It → Hp → Prop} (h : a σ H fun vs H1 => ∃ j : Int, vs = [.int j] ∧ -(2 ^ 62) ≤ j ∧ j < 2 ^ 62 ∧ R (Itr 0 j.toNat) H1) : iRng1 a σ H R := h
theorem w_rng1 {R : Int → Prop} {j : Int} (h1 : -(2 ^ 62) ≤ j) (h2 : j < 2 ^ 62) (q : R j) : ∃ j' : Int, [V.int j] = [.int j'] ∧ -(2 ^ 62) ≤ j' ∧ j' < 2 ^ 62 ∧ R j' := ⟨j, rfl, h1, h2, q⟩
theorem w_iZip {a : TA} {R : It → Hp → Prop} (h : a σ H fun vs H1 => ∃ a b xs ys, vs = [.ref a, .ref b] ∧ SqL K H1 a xs ∧ SqL K H1 b ys ∧ R (Itz K a b) H1) : iZip K a σ H R := h
theorem w_zip {R : Addr → Addr → Prop} {a b : Addr} {xs ys : List V} (h1 : SqL K H a xs) (h2 : SqL K H b ys) (q : R a b) : ∃ a' b' xs ys, [V.ref a, V.ref b] = [.ref a', .ref b'] ∧ SqL K H a' xs ∧ SqL K H b' ys ∧ R a' b' := ⟨a, b, xs, ys, rfl, h1, h2, q⟩
theorem w_iEnum {a : TA} {R : It → Hp → Prop} (h : a σ H fun vs H1 => ∃ a xs, vs = [.ref a] ∧ SqL K H1 a xs ∧ R (Ite K a) H1) : iEnum K a σ H R := h
theorem w_enum {R : Addr → Prop} {a : Addr} {xs : List V} (h1 : SqL K H a xs) (q : R a) : ∃ a' xs, [V.ref a] = [.ref a'] ∧ SqL K H a' xs ∧ R a' := ⟨a, xs, rfl, h1, q⟩
theorem w_gTup {n : Nat} {ts : TGs} {R : L2.St → Hp → Prop} {a : Addr} {xs : List V} (h : SqT K H a xs) (hl : xs.length = n) (q : ts xs σ H R) : gTup K n ts (.ref a) σ H R := ⟨a, xs, rfl, h, hl, q⟩
theorem w_gCons {g : TG} {ts : TGs} {R : L2.St → Hp → Prop} {xs : List V} (q : g x σ H fun σ' H' => ts xs σ' H' R) : gCons g ts (x :: xs) σ H R := ⟨x, xs, rfl, q⟩
theorem w_gNil {R : L2.St → Hp → Prop} (q : R σ H) : gNil [] σ H R := ⟨rfl, q⟩
theorem w_app {R : Prop} {l : Addr} {xs : List V} (h : H l = some (.lst xs)) (hl : xs.length < sizeLine) (q : Q .non (upd H l (.lst (xs ++ [y])))) : rAppend (.ref l) [y] H Q := ⟨l, xs, y, rfl, rfl, h, hl, q⟩
theorem w_tyL {xs : List V} {a : Addr} {R : Prop} (h : H a = some (.lst xs)) (q : R) : tyV K "list" (.ref a) H ∧ R := ⟨.inl ⟨rfl, _, SqL.of h⟩, q⟩
theorem w_tyS {z : Str} {R : Prop} (q : R) : tyV K "str" (.str z) H ∧ R := ⟨rfl, q⟩
theorem w_gSub {ts : TSet} {R : L2.St → Hp → Prop} (h : ta σ H fun o H1 => tb σ H1 fun i H2 => ts o i v H2 fun H3 => R σ H3) : gSub ta tb ts v σ H R := h
theorem w_setL {R : Hp → Prop} {p : Addr} {xs : List V} {j : Nat} (h : H p = some (.lst xs)) (hj : j < xs.length) (q : R (upd H p (.lst (xs.set j v)))) : rSetL (.ref p) (.int (j : Int)) v H R :=
  ⟨p, xs, (j : Int), j, rfl, rfl, h, (by unfold ixN; rw [if_pos (Int.natCast_nonneg j), if_pos (by omega), Int.toNat_natCast]), q⟩
theorem w_slL {a : Addr} {xs : List V} {lo hi : Option Int} (h : SqL K H a xs) (q : ∀ p, H p = none → Q (.ref p) (upd H p (.lst (cutV xs lo hi)))) : rSlL K (.ref a) lo hi H Q := ⟨a, xs, rfl, h, q⟩
theorem w_slS {z : Str} {lo hi : Option Int} (h : z.length ≤ sizeLine) (q : Q (.str (cutS z lo hi)) H) : rSlS (.str z) lo hi H Q := ⟨z, rfl, h, q⟩
theorem w_in {R : R2} {neg : Bool} {p : Addr} {xs : List V} (h : SqL K H p xs) (hx : flatV x = true) (ha : xs.all flatV = true) (q : Q (.bl (if neg then !inV x xs else inV x xs)) H) : rIn K neg x (.ref p) H Q := ⟨p, xs, rfl, .inl h, hx, ha, q⟩
theorem w_start {t : TS} {D : Ends} {σ σ' : L2.St} {H : Hp} (e : σ = σ') (h : t D σ' H) : t D σ H := by rw [e]; exact h
theorem hu64 {k : Nat} {A : Around} (hr : Room k A) : A.units + 64 < cLine := hr.units
theorem hu0 {k : Nat} {A : Around} (hr : Room k A) : A.units < cLine := hr.units0
/-- a statement, then the rest, with a word between them: what follows is shown once -/
def tCut (t u : TS) : TS := fun D σ H => ∃ Mid : L2.St → Hp → Prop, t { D with nx := Mid } σ H ∧ ∀ σ' H', Mid σ' H' → u D σ' H'
theorem pss_cut {X : Cx} {st : Stmt} {rest : List Stmt} {t u : TS} (h1 : PS X st t) (h2 : PSs X rest u) : PSs X (st :: rest) (tCut t u) := by
  refine ⟨fun pins s σ H D I h => ?_⟩
  obtain ⟨Mid, hm, hu⟩ := h
  refine wpAny_execs_cons (thn (h1.run pins s σ H { D with nx := Mid } I hm) fun f s1 q => ?_)
  cases f with
  | next =>
    obtain ⟨σ', H', I', q⟩ := q
    exact h2.run pins s1 σ' H' D I' (hu σ' H' q)
  | ret v => exact q
  | brk => exact q
  | cont => exact q
theorem w_cut {t u : TS} {D : Ends} {σ : L2.St} {H : Hp} (M : L2.St → Hp → Prop) (h : t { D with nx := M } σ H) (k : ∀ σ' H', M σ' H' → u D σ' H') : tCut t u D σ H := ⟨M, h, k⟩
/-! ### loops -/
theorem take_succ {α : Type} {l : List α} {i : Nat} {x : α} (h : l[i]? = some x) : l.take (i + 1) = l.take i ++ [x] := by
  rw [List.take_add_one, h]
  rfl
theorem same_new0 {H : Hp} {p : Addr} {o : HO} (h : H p = none) : Same H (upd H p o) := fun a u e => by
  rw [upd_ne (ne_of_none e h)]
  exact e
theorem same_mut0 {H H' : Hp} {p : Addr} {o : HO} (e : Same H H') (h : H p = none) : Same H (upd H' p o) := fun a u ha => by
  rw [upd_ne (ne_of_none ha h)]
  exact e a u ha
/-- a comprehension whose elements are ys, each a value told ahead; what was tracked stands -/
theorem lc_pure {J : It} {n : Nat} {G : Hp → Prop} {Y : Nat → Hp → V → Hp → Prop} (w : Walk J n G Y) {g : TG} {te : TE} {vs : List Nat} {σ : L2.St} {H1 : Hp} {Qd : Addr → Hp → Prop} (ys : List V) (hn : ys.length = n) (hz : n ≤ sizeLine) (hG : ∀ H', Same H1 H' → G H')
    (hs : ∀ i x y H H' (R : VK), i < n → ys[i]? = some y → Same H1 H → Y i H x H' → (∀ H4, Same H H4 → R y H4) → g x (wipe σ vs) H' fun σ2 H2 => wipe σ2 vs = wipe σ vs ∧ te σ2 H2 R)
    (hd : ∀ D H', Same H1 H' → H1 D = none → H' D = some (.lst ys) → Qd D H') :
    ∀ D, H1 D = none → ∃ W : Nat → Nat → Hp → Prop, (∃ m, W 0 m (upd H1 D (.lst []))) ∧ ∀ i m H, W i m H →
      (J.stop i H ∧ Qd D H) ∨ (J.go i H ∧ ∃ Nx : Hp → Prop, (∀ H', Nx H' → ∃ m', m' < m ∧ W (i + 1) m' H') ∧ ∀ x H', J.yld i H x H' → g x (wipe σ vs) H' fun σ2 H2 => wipe σ2 vs = wipe σ vs ∧ tYes σ2 H2 fun b H3 =>
        if b = true then te σ2 H3 fun y H4 => ∃ acc, H4 D = some (.lst acc) ∧ acc.length < sizeLine ∧ Nx (upd H4 D (.lst (acc ++ [y]))) else Nx H3) := by
  intro D hD
  refine lc_it w (Qd := Qd D) (fun i H => Same H1 H ∧ H D = some (.lst (ys.take i))) ⟨same_new0 hD, upd_same⟩ (fun i H _ p => hG H p.1) (fun i x H H' hi p y => ?_) (fun H p => hd D H p.1 hD (by rw [p.2, ← hn, List.take_length]))
  have hyi : ys[i]? = some (ys[i]'(by omega)) := List.getElem?_eq_getElem _
  have step := hs i x _ H H' (fun y H4 => ∃ acc, H4 D = some (.lst acc) ∧ acc.length < sizeLine ∧ (Same H1 (upd H4 D (.lst (acc ++ [y]))) ∧ (upd H4 D (.lst (acc ++ [y]))) D = some (.lst (ys.take (i + 1))))) hi hyi p.1 y
    (fun H4 s4 => ⟨ys.take i, s4 _ _ p.2, by rw [List.length_take]; omega, same_mut0 (p.1.trans s4) hD, by rw [take_succ hyi]; exact upd_same⟩)
  exact step
/-- the same with a test: ks tells for each whether it is kept -/
theorem lc_kept {J : It} {n : Nat} {G : Hp → Prop} {Y : Nat → Hp → V → Hp → Prop} (w : Walk J n G Y) {g : TG} {tt : TT} {te : TE} {vs : List Nat} {σ : L2.St} {H1 : Hp} {Qd : Addr → Hp → Prop} (ys : List V) (kp : V → Bool) (hn : ys.length = n) (hz : n ≤ sizeLine) (hG : ∀ H', Same H1 H' → G H')
    (hs : ∀ i x y H H' (R : Bool → Hp → Prop), i < n → ys[i]? = some y → Same H1 H → Y i H x H' → (∀ H4, Same H H4 → R (kp y) H4) → g x (wipe σ vs) H' fun σ2 H2 => wipe σ2 vs = wipe σ vs ∧ tt σ2 H2 R ∧ ∀ H3 (R : VK), Same H H3 → (∀ H4, Same H3 H4 → R y H4) → te σ2 H3 R)
    (hm : ∀ (x : V) (H' : Hp) (Rs : L2.St → Hp → Prop) (Rt : L2.St → Hp → Prop), (∀ σ2 H2, Rs σ2 H2 → Rt σ2 H2) → g x (wipe σ vs) H' Rs → g x (wipe σ vs) H' Rt)
    (ht : ∀ σ2 H2 (R R' : Bool → Hp → Prop), (∀ b H3, R b H3 → R' b H3) → tt σ2 H2 R → tt σ2 H2 R')
    (hd : ∀ D H', Same H1 H' → H1 D = none → H' D = some (.lst (ys.filter kp)) → Qd D H') :
    ∀ D, H1 D = none → ∃ W : Nat → Nat → Hp → Prop, (∃ m, W 0 m (upd H1 D (.lst []))) ∧ ∀ i m H, W i m H →
      (J.stop i H ∧ Qd D H) ∨ (J.go i H ∧ ∃ Nx : Hp → Prop, (∀ H', Nx H' → ∃ m', m' < m ∧ W (i + 1) m' H') ∧ ∀ x H', J.yld i H x H' → g x (wipe σ vs) H' fun σ2 H2 => wipe σ2 vs = wipe σ vs ∧ tt σ2 H2 fun b H3 =>
        if b = true then te σ2 H3 fun y H4 => ∃ acc, H4 D = some (.lst acc) ∧ acc.length < sizeLine ∧ Nx (upd H4 D (.lst (acc ++ [y]))) else Nx H3) := by
  intro D hD
  refine lc_it w (Qd := Qd D) (fun i H => Same H1 H ∧ H D = some (.lst ((ys.take i).filter kp))) ⟨same_new0 hD, upd_same⟩ (fun i H _ p => hG H p.1) (fun i x H H' hi p y => ?_) (fun H p => hd D H p.1 hD (by rw [p.2, ← hn, List.take_length]))
  have hyi : ys[i]? = some (ys[i]'(by omega)) := List.getElem?_eq_getElem _
  have step := hs i x _ H H' (fun b H4 => b = kp (ys[i]'(by omega)) ∧ Same H H4) hi hyi p.1 y (fun H4 s4 => ⟨rfl, s4⟩)
  refine hm x H' _ _ (fun σ2 H2 q => ?_) step
  obtain ⟨q1, q2, q3⟩ := q
  refine ⟨q1, ht σ2 H2 _ _ (fun b H3 r => ?_) q2⟩
  obtain ⟨rb, r3⟩ := r
  have tk : ys.take (i + 1) = ys.take i ++ [ys[i]'(by omega)] := take_succ hyi
  cases b with
  | true =>
    refine w_iteT (q3 H3 _ r3 fun H4 s4 => ⟨(ys.take i).filter kp, s4 _ _ (r3 _ _ p.2), ?_, same_mut0 ((p.1.trans r3).trans s4) hD, ?_⟩)
    · have := List.length_filter_le kp (ys.take i)
      rw [List.length_take] at this
      omega
    · rw [tk, List.filter_append, List.filter_cons_of_pos rb.symm]
      exact upd_same
  | false =>
    refine w_iteF ⟨p.1.trans r3, ?_⟩
    rw [tk, List.filter_append, List.filter_cons_of_neg (by rw [← rb]; exact Bool.false_ne_true), List.filter_nil, List.append_nil]
    exact r3 _ _ p.2
/-- a heap's later look -/
theorem Same.at {H H' : Hp} {a : Addr} {o : HO} (s : Same H H') (h : H a = some o) : H' a = some o := s a o h
theorem same_new {H : Hp} {p : Addr} {o : HO} (h : H p = none) : Same H (upd H p o) := fun a u e => by
  rw [upd_ne (ne_of_none e h)]
  exact e
theorem Same.new {H H' : Hp} {p : Addr} {o : HO} (s : Same H H') (h : H' p = none) : Same H (upd H' p o) := s.trans (same_new h)
theorem Same.mut {H H' : Hp} {p : Addr} {o : HO} (e : Same H H') (h : H p = none) : Same H (upd H' p o) := fun a u ha => by
  rw [upd_ne (ne_of_none ha h)]
  exact e a u ha
theorem Same.tup {K : PySem.W.Frag} {H H' : Hp} {a : Addr} {xs : List V} (e : Same H H') (h : SqT K H a xs) : SqT K H' a xs := by
  rcases h with (h | ⟨o, h⟩) | h
  · exact .inl (.inl (e _ _ h))
  · exact .inl (.inr ⟨o, e _ _ h⟩)
  · exact .inr h
end Sp
/-! ## What the defs compute, in plain Lean -/
namespace Sp
open PySem L2
/-- a cell of the script -/
def cellAt (ns : List Int) (k : Int) : Int := if k < (ns.length : Int) then ns.getD k.toNat 0 else 0
def shareBy (c : Int) : Int := if c % 5 = 1 then 1 + c / 5 % 1000000000000 else if c % 5 = 2 then 1 + c / 5 % 3 else 1 + c / 5 % 40
def manyBy (c : Int) : Int := if c / 6 % 5 = 1 then 1 + c / 30 % 40 else 1 + c % 6
theorem atI_int {ns : List Int} {k : Int} (h0 : 0 ≤ k) (h : k < (ns.length : Int)) : atI (ns.map V.int) k = some (.int (ns.getD k.toNat 0)) := by
  obtain ⟨n, rfl⟩ := Int.eq_ofNat_of_zero_le h0
  have hn : n < ns.length := by omega
  refine atI_nat ?_
  rw [List.getElem?_map, List.getElem?_eq_getElem hn]
  show some (V.int _) = some (V.int _)
  rw [Int.toNat_natCast, List.getD_eq_getElem?_getD, List.getElem?_eq_getElem hn]
  rfl
/-- what the program calls a whole number within bounds -/
def wholeV (x : V) (lo hi : Int) : Bool := match x with
  | .int i => decide (lo ≤ i) && decide (i ≤ hi)
  | _ => false
/-- a value of the kinds that are handed in -/
def Kd (H : Hp) (x : V) : Prop := match x with
  | .int _ => True
  | .bl _ => True
  | .non => True
  | .str _ => True
  | .ref a => (∃ xs, H a = some (.lst xs)) ∨ ∃ xs, H a = some (.tup xs)
  | _ => False
abbrev mostShare : Int := 1000000000000
def rowOk (xs : List V) (least : Int) : Bool := xs.all fun y => wholeV y least mostShare
theorem rowOk_ints {ns : List Int} {least : Int} (h : ∀ n ∈ ns, least ≤ n ∧ n ≤ mostShare) : rowOk (ns.map V.int) least = true := by
  unfold rowOk
  rw [List.all_eq_true]
  intro y hy
  obtain ⟨n, hn, rfl⟩ := List.mem_map.mp hy
  obtain ⟨h1, h2⟩ := h n hn
  simp only [wholeV, decide_eq_true h1, decide_eq_true h2, Bool.and_self]
/-- shares that are handed in as they should be -/
structure Good (ns : List Int) : Prop where
  pos : 1 ≤ ns.length
  few : ns.length ≤ 40
  each : ∀ n ∈ ns, 1 ≤ n ∧ n ≤ mostShare
def halvedL (xs : List Int) : List Int := xs.map fun x => x - x / 2
def shrink : Nat → Int → List Int → List Int
  | 0, _, xs => xs
  | n + 1, cap, xs => if cap < xs.sum then shrink n cap (halvedL xs) else xs
def addL (xs ys : List Int) : List Int := List.zipWith (fun x y => x + y) xs ys
def learntL (xs ys : List Int) (cap : Int) : List Int := shrink (addL xs ys).sum.toNat cap (addL xs ys)
theorem halved_sum_le : ∀ xs : List Int, (∀ x ∈ xs, 1 ≤ x) → (halvedL xs).sum ≤ xs.sum ∧ ((halvedL xs).sum = xs.sum → xs.sum = xs.length)
  | [], _ => ⟨Int.le_refl _, fun _ => rfl⟩
  | x :: xs, h => by
    obtain ⟨h1, h2⟩ := halved_sum_le xs fun y hy => h y (List.mem_cons_of_mem _ hy)
    have hx := h x List.mem_cons_self
    have e : (halvedL (x :: xs)).sum = (x - x / 2) + (halvedL xs).sum := by show ((x - x / 2) :: halvedL xs).sum = _; rw [List.sum_cons]
    rw [e, List.sum_cons, List.length_cons]
    refine ⟨by omega, fun q => ?_⟩
    have q1 : (halvedL xs).sum = xs.sum := by omega
    have := h2 q1
    omega
theorem halved_less {xs : List Int} {cap : Int} (h : ∀ x ∈ xs, 1 ≤ x) (hc : (xs.length : Int) ≤ cap) (hs : cap < xs.sum) : (halvedL xs).sum < xs.sum := by
  obtain ⟨h1, h2⟩ := halved_sum_le xs h
  rcases Int.lt_or_eq_of_le h1 with q | q
  · exact q
  · have := h2 q
    omega
theorem halved_pos {xs : List Int} (h : ∀ x ∈ xs, 1 ≤ x) : ∀ x ∈ halvedL xs, 1 ≤ x := fun x hx => by
  obtain ⟨y, hy, rfl⟩ := List.mem_map.mp hx
  have := h y hy
  omega
theorem halved_length (xs : List Int) : (halvedL xs).length = xs.length := List.length_map _
theorem sum_nonneg : ∀ {xs : List Int}, (∀ x ∈ xs, 1 ≤ x) → (xs.length : Int) ≤ xs.sum
  | [], _ => Int.le_refl _
  | x :: xs, h => by
    have h1 := sum_nonneg fun y hy => h y (List.mem_cons_of_mem _ hy)
    have h2 := h x List.mem_cons_self
    rw [List.sum_cons, List.length_cons]
    omega
/-- one turn of the loop, told by the sum as the measure -/
theorem shrink_turn {n : Nat} {cap : Int} {xs : List Int} (h : ∀ x ∈ xs, 1 ≤ x) (hc : (xs.length : Int) ≤ cap) (hs : cap < xs.sum) (hn : xs.sum.toNat ≤ n) : ∃ m, shrink n cap xs = shrink m cap (halvedL xs) ∧ (halvedL xs).sum.toNat ≤ m ∧ (halvedL xs).sum.toNat < xs.sum.toNat := by
  have l := halved_less h hc hs
  have p := sum_nonneg (halved_pos h)
  cases n with
  | zero => omega
  | succ m =>
    refine ⟨m, ?_, by omega, by omega⟩
    show (if cap < xs.sum then shrink m cap (halvedL xs) else xs) = _
    rw [if_pos hs]
theorem shrink_done {n : Nat} {cap : Int} {xs : List Int} (hs : ¬ cap < xs.sum) : shrink n cap xs = xs := by
  cases n with
  | zero => rfl
  | succ m =>
    show (if cap < xs.sum then shrink m cap (halvedL xs) else xs) = _
    rw [if_neg hs]
theorem addL_length {xs ys : List Int} (h : ys.length = xs.length) : (addL xs ys).length = xs.length := by
  unfold addL
  rw [List.length_zipWith, h, Nat.min_self]
theorem addL_get {xs ys : List Int} {i : Nat} {z : Int} (h : (addL xs ys)[i]? = some z) : ∃ x y, xs[i]? = some x ∧ ys[i]? = some y ∧ z = x + y := by
  unfold addL at h
  rw [List.getElem?_zipWith] at h
  cases hx : xs[i]? with
  | none => rw [hx] at h; cases h
  | some x =>
    cases hy : ys[i]? with
    | none => rw [hx, hy] at h; cases h
    | some y => rw [hx, hy] at h; exact ⟨x, y, rfl, rfl, (Option.some.inj h).symm⟩
theorem addL_pos {xs ys : List Int} (hx : ∀ x ∈ xs, 1 ≤ x) (hy : ∀ y ∈ ys, 0 ≤ y) : ∀ z ∈ addL xs ys, 1 ≤ z := fun z hz => by
  obtain ⟨i, hi, e⟩ := List.getElem_of_mem hz
  obtain ⟨x, y, h1, h2, rfl⟩ := addL_get (i := i) (z := z) (by rw [List.getElem?_eq_getElem hi, e])
  have := hx x (List.mem_of_getElem? h1)
  have := hy y (List.mem_of_getElem? h2)
  omega
/-- ints read off a list of them -/
theorem map_int {ns : List Int} {i : Nat} {x : V} (h : (ns.map V.int)[i]? = some x) : ∃ n, ns[i]? = some n ∧ x = .int n := by
  rw [List.getElem?_map] at h
  cases e : ns[i]? with
  | none => rw [e] at h; cases h
  | some n => rw [e] at h; exact ⟨n, rfl, (Option.some.inj h).symm⟩
theorem map_str {ns : List Str} {i : Nat} {x : V} (h : (ns.map V.str)[i]? = some x) : ∃ n, ns[i]? = some n ∧ x = .str n := by
  rw [List.getElem?_map] at h
  cases e : ns[i]? with
  | none => rw [e] at h; cases h
  | some n => rw [e] at h; exact ⟨n, rfl, (Option.some.inj h).symm⟩
theorem int_inj {a b : List Int} (h : a.map V.int = b.map V.int) : a = b := by
  have := congrArg (List.map fun v => match v with | V.int i => i | _ => 0) h
  simpa [List.map_map, Function.comp_def] using this
theorem manyBy_bounds (c : Int) : 1 ≤ manyBy c ∧ manyBy c ≤ 40 := by
  unfold manyBy
  split <;> omega
theorem shareBy_bounds (c : Int) : 1 ≤ shareBy c ∧ shareBy c ≤ mostShare := by
  unfold shareBy mostShare
  split
  · omega
  · split <;> omega
/-- n numbers, each by its place -/
def rowBy (n : Int) (f : Nat → Int) : List Int := (List.range n.toNat).map f
theorem rowBy_length (n : Int) (f : Nat → Int) : (rowBy n f).length = n.toNat := by simp [rowBy]
theorem rowBy_get {n : Int} {f : Nat → Int} {i : Nat} {z : Int} (h : (rowBy n f)[i]? = some z) : z = f i ∧ i < n.toNat := by
  unfold rowBy at h
  rw [List.getElem?_map] at h
  by_cases hi : i < n.toNat
  · rw [List.getElem?_range hi] at h
    exact ⟨(Option.some.inj h).symm, hi⟩
  · rw [List.getElem?_eq_none (by simpa using hi)] at h
    cases h
theorem rowBy_mem {n : Int} {f : Nat → Int} {z : Int} (h : z ∈ rowBy n f) : ∃ i, z = f i ∧ i < n.toNat := by
  obtain ⟨i, hi, e⟩ := List.getElem_of_mem h
  exact ⟨i, rowBy_get (by rw [List.getElem?_eq_getElem hi, e])⟩
end Sp
namespace Sp
open PySem L2
local macro_rules | `(tactic| walk_at "look") => `(tactic| first
  | assumption
  | exact SqL.of (by assumption)
  | exact SqT.of (by assumption)
  | ((apply Same.seq); (first | assumption | (apply Sp.same_new; assumption)); walk_at "look")
  | ((apply Sp.Same.tup); (first | assumption | (apply Sp.same_new; assumption)); walk_at "look")
  | ((apply Sp.Same.at); (first | assumption | (apply Sp.same_new; assumption)); walk_at "look"))
local macro_rules | `(tactic| walk_at "isi") => `(tactic| first
  | (with_reducible apply Sp.isi_int_int)
  | (with_reducible apply Sp.isi_int_bool)
  | (with_reducible apply Sp.isi_int_str)
  | (with_reducible apply Sp.isi_int_list)
  | (with_reducible apply Sp.isi_int_tuple)
  | (with_reducible apply Sp.isi_bl_int)
  | (with_reducible apply Sp.isi_bl_bool)
  | (with_reducible apply Sp.isi_bl_str)
  | (with_reducible apply Sp.isi_bl_list)
  | (with_reducible apply Sp.isi_bl_tuple)
  | (with_reducible apply Sp.isi_non_int)
  | (with_reducible apply Sp.isi_non_bool)
  | (with_reducible apply Sp.isi_non_str)
  | (with_reducible apply Sp.isi_non_list)
  | (with_reducible apply Sp.isi_non_tuple)
  | (with_reducible apply Sp.isi_str_int)
  | (with_reducible apply Sp.isi_str_bool)
  | (with_reducible apply Sp.isi_str_str)
  | (with_reducible apply Sp.isi_str_list)
  | (with_reducible apply Sp.isi_str_tuple)
  | ((with_reducible apply Sp.isi_lst_int); walk_at "look")
  | ((with_reducible apply Sp.isi_lst_bool); walk_at "look")
  | ((with_reducible apply Sp.isi_lst_str); walk_at "look")
  | ((with_reducible apply Sp.isi_lst_list); walk_at "look")
  | ((with_reducible apply Sp.isi_lst_tuple); walk_at "look")
  | ((with_reducible apply Sp.isi_tup_int); walk_at "look")
  | ((with_reducible apply Sp.isi_tup_bool); walk_at "look")
  | ((with_reducible apply Sp.isi_tup_str); walk_at "look")
  | ((with_reducible apply Sp.isi_tup_list); walk_at "look")
  | ((with_reducible apply Sp.isi_tup_tuple); walk_at "look"))
local macro_rules | `(tactic| walk_at "s") => `(tactic| first
  | ((with_reducible apply Sp.w_var); exact rfl)
  | (with_reducible apply Sp.w_c)
  | (with_reducible apply Sp.w_op)
  | (with_reducible apply Sp.w_I0)
  | ((with_reducible apply Sp.w_I); (first | (show (0 : Int) < _; decide) | exact ⟨by decide, by decide⟩ | (show (0 : Int) < _; omega) | exact .inl ⟨by decide, by decide⟩ | exact .inr ⟨by decide, by decide⟩))
  | (with_reducible apply Sp.w_rfl)
  | (with_reducible apply Sp.w_ints2)
  | (with_reducible apply Sp.w_inS)
  | (with_reducible apply Sp.w_int1)
  | (with_reducible apply Sp.w_int1b)
  | ((with_reducible apply Sp.w_lenS); walk_at "look")
  | ((with_reducible apply Sp.w_sum); walk_at "look")
  | (with_reducible apply Sp.w_for)
  | (with_reducible apply Sp.w_lc)
  | (with_reducible apply Sp.w_iList)
  | ((with_reducible apply Sp.w_itL); walk_at "look")
  | (with_reducible apply Sp.w_iStr)
  | (with_reducible apply Sp.w_str)
  | (with_reducible apply Sp.w_iRng1)
  | (with_reducible apply Sp.w_iZip)
  | ((with_reducible apply Sp.w_zip); walk_at "look"; walk_at "look")
  | (with_reducible apply Sp.w_iEnum)
  | ((with_reducible apply Sp.w_enum); walk_at "look")
  | ((with_reducible apply Sp.w_gTup); walk_at "look"; exact rfl)
  | (with_reducible apply Sp.w_gCons)
  | (with_reducible apply Sp.w_gNil)
  | (with_reducible apply Sp.w_gSub)
  | (with_reducible apply Sp.w_N)
  | (with_reducible apply Sp.w_tyS)
  | ((with_reducible apply Sp.w_tyL); walk_at "look")
  | ((with_reducible apply Sp.w_slL); walk_at "look")
  | (with_reducible show rIsi _ _ _ _; walk_at "isi")
  | (with_reducible apply Sp.w_cons)
  | (with_reducible apply Sp.w_nil)
  | (with_reducible apply Sp.w_call)
  | (with_reducible apply Sp.w_cb)
  | (with_reducible apply Sp.w_seq)
  | (with_reducible apply Sp.w_asg)
  | (with_reducible apply Sp.w_ret)
  | (with_reducible apply Sp.w_ifS)
  | (with_reducible apply Sp.w_test)
  | (with_reducible apply Sp.w_bl)
  | (with_reducible apply Sp.w_iteT)
  | (with_reducible apply Sp.w_iteF)
  | (with_reducible apply Sp.w_iteNF)
  | (with_reducible apply Sp.w_iteNT)
  | ((with_reducible apply Sp.w_eq); exact rfl)
  | ((with_reducible apply Sp.w_ne); exact rfl)
  | (with_reducible apply Sp.w_chain)
  | (with_reducible apply Sp.w_andV)
  | (with_reducible apply Sp.w_orV)
  | (with_reducible apply Sp.w_notV)
  | (with_reducible apply Sp.w_B)
  | (with_reducible apply Sp.w_and)
  | (with_reducible apply Sp.w_or)
  | (with_reducible apply Sp.w_not)
  | (with_reducible apply Sp.w_fld)
  | (with_reducible apply Sp.w_int)
  | (with_reducible apply Sp.w_next)
  | (with_reducible apply Sp.w_drop)
  | (with_reducible apply Sp.w_tup)
  | (with_reducible apply Sp.w_lst)
  | (with_reducible apply Sp.w_bm)
  | (with_reducible apply Sp.w_bm0)
  | (with_reducible apply Sp.w_sl)
  | (with_reducible apply Sp.w_nopart)
  | (with_reducible apply Sp.w_part)
  | (with_reducible apply Sp.w_gname)
  | (with_reducible apply Sp.w_asgG)
  | (with_reducible apply Sp.w_sfld)
  | (with_reducible apply Sp.w_un)
  | (with_reducible apply Sp.w_neg)
  | (with_reducible apply Sp.w_retN)
  | (with_reducible apply Sp.w_brk)
  | (with_reducible apply Sp.w_cont)
  | (with_reducible apply Sp.w_if))
local macro_rules | `(tactic| walk_at "ss") => `(tactic| repeat (walk_at "s"))
/-! ## The text by places -/
def top (i : Nat) : Stmt := PySem.Challenge.pw_sharepack_k01_a_block_learnt.main.body.getD i (.Pass ⟨0, 0, 0, 0⟩)
abbrev s_whole : Stmt := top 7
abbrev s_whole_row : Stmt := top 8
abbrev s_need_shares : Stmt := top 9
abbrev s_halved : Stmt := top 10
abbrev s_learnt : Stmt := top 11
abbrev s_law_whole : Stmt := top 13
abbrev s_law_cell_at : Stmt := top 14
abbrev s_law_share_by : Stmt := top 15
abbrev s_law_many_by : Stmt := top 16
abbrev s_law_numbers_alike : Stmt := top 17
abbrev s_law_learnt_by : Stmt := top 18
abbrev s_law : Stmt := top 19
structure Adr where
  f_whole : Addr
  d_whole : FuncData
  f_whole_row : Addr
  d_whole_row : FuncData
  f_need_shares : Addr
  d_need_shares : FuncData
  f_halved : Addr
  d_halved : FuncData
  f_learnt : Addr
  d_learnt : FuncData
  f_law_whole : Addr
  d_law_whole : FuncData
  f_law_cell_at : Addr
  d_law_cell_at : FuncData
  f_law_share_by : Addr
  d_law_share_by : FuncData
  f_law_many_by : Addr
  d_law_many_by : FuncData
  f_law_numbers_alike : Addr
  d_law_numbers_alike : FuncData
  f_law_learnt_by : Addr
  d_law_learnt_by : FuncData
  f_law : Addr
  d_law : FuncData
  t_MOST_CAP : Tok
  t_MOST_SHARE : Tok
  t_MOST_SIGNS : Tok
/-- what the top has written -/
structure Txt (K : PySem.W.Frag) (mg : Str → Option Value) (A : Adr) : Prop where
  F_whole : Fun K "whole" "whole" s_whole A.f_whole A.d_whole
  b_whole : Binds K A.d_whole ["found", "least", "most"] []
  g_whole : mg "whole" = some (.ref A.f_whole)
  F_whole_row : Fun K "whole_row" "whole_row" s_whole_row A.f_whole_row A.d_whole_row
  b_whole_row : Binds K A.d_whole_row ["row", "least"] []
  g_whole_row : mg "whole_row" = some (.ref A.f_whole_row)
  F_need_shares : Fun K "need_shares" "need_shares" s_need_shares A.f_need_shares A.d_need_shares
  b_need_shares : Binds K A.d_need_shares ["shares"] []
  g_need_shares : mg "need_shares" = some (.ref A.f_need_shares)
  F_halved : Fun K "halved" "halved" s_halved A.f_halved A.d_halved
  b_halved : Binds K A.d_halved ["shares"] []
  g_halved : mg "halved" = some (.ref A.f_halved)
  F_learnt : Fun K "learnt" "learnt" s_learnt A.f_learnt A.d_learnt
  b_learnt : Binds K A.d_learnt ["shares", "counts", "cap"] []
  g_learnt : mg "learnt" = some (.ref A.f_learnt)
  F_law_whole : Fun K "_law_whole" "_law_whole" s_law_whole A.f_law_whole A.d_law_whole
  b_law_whole : Binds K A.d_law_whole ["_law_found"] []
  g_law_whole : mg "_law_whole" = some (.ref A.f_law_whole)
  F_law_cell_at : Fun K "_law_cell_at" "_law_cell_at" s_law_cell_at A.f_law_cell_at A.d_law_cell_at
  b_law_cell_at : Binds K A.d_law_cell_at ["_law_script", "_law_k"] []
  g_law_cell_at : mg "_law_cell_at" = some (.ref A.f_law_cell_at)
  F_law_share_by : Fun K "_law_share_by" "_law_share_by" s_law_share_by A.f_law_share_by A.d_law_share_by
  b_law_share_by : Binds K A.d_law_share_by ["_law_cell"] []
  g_law_share_by : mg "_law_share_by" = some (.ref A.f_law_share_by)
  F_law_many_by : Fun K "_law_many_by" "_law_many_by" s_law_many_by A.f_law_many_by A.d_law_many_by
  b_law_many_by : Binds K A.d_law_many_by ["_law_cell"] []
  g_law_many_by : mg "_law_many_by" = some (.ref A.f_law_many_by)
  F_law_numbers_alike : Fun K "_law_numbers_alike" "_law_numbers_alike" s_law_numbers_alike A.f_law_numbers_alike A.d_law_numbers_alike
  b_law_numbers_alike : Binds K A.d_law_numbers_alike ["_law_found", "_law_due"] []
  g_law_numbers_alike : mg "_law_numbers_alike" = some (.ref A.f_law_numbers_alike)
  F_law_learnt_by : Fun K "_law_learnt_by" "_law_learnt_by" s_law_learnt_by A.f_law_learnt_by A.d_law_learnt_by
  b_law_learnt_by : Binds K A.d_law_learnt_by ["_law_shares", "_law_counts", "_law_cap"] []
  g_law_learnt_by : mg "_law_learnt_by" = some (.ref A.f_law_learnt_by)
  F_law : Fun K "law" "law" s_law A.f_law A.d_law
  b_law : Binds K A.d_law ["_law_script"] []
  g_law : mg "law" = some (.ref A.f_law)
  n_bool : mg "bool" = none
  n_int : mg "int" = none
  n_isinstance : mg "isinstance" = none
  n_len : mg "len" = none
  n_list : mg "list" = none
  n_range : mg "range" = none
  n_sum : mg "sum" = none
  n_zip : mg "zip" = none
  c_MOST_CAP : mg "MOST_CAP" = some (.int 1000000 A.t_MOST_CAP)
  c_MOST_SHARE : mg "MOST_SHARE" = some (.int 1000000000000 A.t_MOST_SHARE)
  c_MOST_SIGNS : mg "MOST_SIGNS" = some (.int 40 A.t_MOST_SIGNS)
theorem sc_whole : FnScope ["found", "least", "most"] ["found", "least", "most"] (defScope s_whole) := ⟨rfl, rfl, rfl, by decide +kernel, rfl, by decide +kernel, by decide +kernel⟩
section
variable {P : Program} {w : World} {K : PySem.W.Frag} {mg : Str → Option Value} {base : Heap} {A : Adr}
def sp_whole : L2.Sp := fun vs H Q _ => ∃ (x : V) (lo hi : Int), vs = [x, .int lo, .int hi] ∧ Kd H x ∧ Q (.bl (wholeV x lo hi)) H
theorem u_whole {H : Hp} {Q : VK} {E : XK} {x : V} {lo hi : Int} (h : Kd H x) (q : Q (.bl (wholeV x lo hi)) H) : sp_whole [x, .int lo, .int hi] H Q E := ⟨x, lo, hi, rfl, h, q⟩
theorem u_wholeI {H : Hp} {Q : VK} {E : XK} {i lo hi : Int} (q : Q (.bl (decide (lo ≤ i) && decide (i ≤ hi))) H) : sp_whole [.int i, .int lo, .int hi] H Q E := ⟨.int i, lo, hi, rfl, trivial, q⟩
theorem ok_whole (T : Txt K mg A) : FnOk P w K mg base CX0 1 A.f_whole A.d_whole ["found", "least", "most"] (sp_whole) := by
  refine T.F_whole.ok sc_whole (fun vs H Q E h => by first | (obtain ⟨rfl, _⟩ := h; rfl) | (obtain ⟨_, rfl, _⟩ := h; rfl) | (obtain ⟨_, _, rfl, _⟩ := h; rfl) | (obtain ⟨_, _, _, rfl, _⟩ := h; rfl) | (obtain ⟨_, _, _, _, rfl, _⟩ := h; rfl) | (obtain ⟨_, _, _, _, _, rfl, _⟩ := h; rfl) | (obtain ⟨_, _, _, _, _, _, rfl, _⟩ := h; rfl) | (obtain ⟨_, _, _, _, _, _, _, rfl, _⟩ := h; rfl) | (obtain ⟨_, _, _, _, _, _, _, _, rfl, _⟩ := h; rfl) | (obtain ⟨_, _, _, _, _, _, _, _, _, rfl, _⟩ := h; rfl)) (fun cdv Ar outer s H vs Q E hr h => ?_)
  obtain ⟨x, lo, hi, rfl, hx, q⟩ := h
  refine ⟨_, (pss_one (ps_ret (pe_and (pe_callB call_isi (by rfl) T.n_isinstance (by decide +kernel) (pa_cons (pv 0) (pa_cons (pe_bltn (v := .ty "int") (by rfl) T.n_int (by decide +kernel) rfl) pa_nil))) (pe_and (pe_not (pe_callB call_isi (by rfl) T.n_isinstance (by decide +kernel) (pa_cons (pv 0) (pa_cons (pe_bltn (v := .ty "bool") (by rfl) T.n_bool (by decide +kernel) rfl) pa_nil)))) (pe_one (pe_chain op_le op_le (pv 1) (pv 0) (pv 2))))))), ?_⟩
  refine w_start (σ' := [some _, some _, some _]) rfl ?_
  try dsimp only [cxOf, Cx.nox, Cx.wish]
  cases x with
  | int i =>
    walk_at "ss"
    simp only [wholeV] at q
    refine w_ite (p := lo ≤ i) (fun h => ?_) (fun h => ?_)
    · walk_at "ss"
      rw [decide_eq_true h] at q
      exact q
    · rw [decide_eq_false h] at q
      exact q
  | bl b =>
    walk_at "ss"
    exact q
  | non =>
    walk_at "ss"
    exact q
  | str z =>
    walk_at "ss"
    exact q
  | ref a =>
    rcases hx with ⟨xs, hx⟩ | ⟨xs, hx⟩
    · walk_at "ss"
      exact q
    · walk_at "ss"
      exact q
  | _ => exact hx.elim
end
theorem sc_whole_row : FnScope ["row", "least", "one"] ["row", "least"] (defScope s_whole_row) := ⟨rfl, rfl, rfl, by decide +kernel, rfl, by decide +kernel, by decide +kernel⟩
section
variable {P : Program} {w : World} {K : PySem.W.Frag} {mg : Str → Option Value} {base : Heap} {A : Adr}
def sp_whole_row : L2.Sp := fun vs H Q _ => ∃ (a : Addr) (xs : List V) (least : Int), vs = [.ref a, .int least] ∧ H a = some (.lst xs) ∧ (∀ y ∈ xs, Kd H y) ∧ Q (.bl (rowOk xs least)) H
theorem u_whole_row {H : Hp} {Q : VK} {E : XK} {a : Addr} {xs : List V} {least : Int} (h : H a = some (.lst xs)) (hk : ∀ y ∈ xs, Kd H y) (q : Q (.bl (rowOk xs least)) H) : sp_whole_row [.ref a, .int least] H Q E := ⟨a, xs, least, rfl, h, hk, q⟩
theorem ok_whole_row (T : Txt K mg A) : FnOk P w K mg base CX0 2 A.f_whole_row A.d_whole_row ["row", "least"] (sp_whole_row) := by
  have G_whole := ok_whole (P := P) (w := w) (base := base) T
  refine T.F_whole_row.ok sc_whole_row (fun vs H Q E h => by first | (obtain ⟨rfl, _⟩ := h; rfl) | (obtain ⟨_, rfl, _⟩ := h; rfl) | (obtain ⟨_, _, rfl, _⟩ := h; rfl) | (obtain ⟨_, _, _, rfl, _⟩ := h; rfl) | (obtain ⟨_, _, _, _, rfl, _⟩ := h; rfl) | (obtain ⟨_, _, _, _, _, rfl, _⟩ := h; rfl) | (obtain ⟨_, _, _, _, _, _, rfl, _⟩ := h; rfl) | (obtain ⟨_, _, _, _, _, _, _, rfl, _⟩ := h; rfl) | (obtain ⟨_, _, _, _, _, _, _, _, rfl, _⟩ := h; rfl) | (obtain ⟨_, _, _, _, _, _, _, _, _, rfl, _⟩ := h; rfl)) (fun cdv Ar outer s H vs Q E hr h => ?_)
  obtain ⟨a, xs, least, rfl, ha, hk, q⟩ := h
  have hr_whole := hr.mono (by decide : 1 ≤ 1)
  refine ⟨_, (pss_cons (ps_if (pt_not (pt_val (pe_callB call_isi (by rfl) T.n_isinstance (by decide +kernel) (pa_cons (pv 0) (pa_cons (pe_bltn (v := .ty "list") (by rfl) T.n_list (by decide +kernel) rfl) pa_nil))))) (pss_one (ps_ret pe_bl))
      pss_nil)
      (pss_cons (ps_for PassesOwn.never rfl (pi_list (pv 0)) (pg_name (i := 2) sc_whole_row.nd rfl (Or.inl rfl))
      (pss_one (ps_if (pt_not (pt_val (pe_call G_whole hr_whole rfl T.g_whole T.F_whole.kp T.b_whole .nil pass0 (pa_cons (pv 2) (pa_cons (pv 1) (pa_cons (pe_glob (v := .int 1000000000000) rfl T.c_MOST_SHARE ⟨_, rfl⟩) pa_nil)))))) (pss_one (ps_ret pe_bl))
      pss_nil)))
      (pss_one (ps_ret pe_bl)))), ?_⟩
  refine w_start (σ' := [some _, some _, none]) rfl ?_
  try dsimp only [cxOf, Cx.nox, Cx.wish]
  walk_at "ss"
  refine for_it (walk_list (xs := xs)) (fun i σ' H' => H' = H ∧ (∃ v, σ' = [some (.ref a), some (.int least), v]) ∧ rowOk (xs.take i) least = true) ⟨rfl, ⟨_, rfl⟩, rfl⟩ (fun i σ' H' _ p => by rw [p.1]; exact SqL.of ha) (fun i x σ' H' H2 hi p y => ?_) (fun σ' H' p => ?_)
  · obtain ⟨rfl, ⟨v, rfl⟩, hall⟩ := p
    obtain ⟨rfl, hx⟩ := y
    walk_at "ss"
    refine u_whole (hk x (List.mem_of_getElem? hx)) ?_
    walk_at "ss"
    refine w_iteB (fun h => ?_) (fun h => ?_)
    · walk_at "ss"
      have e : rowOk xs least = false := by
        rw [Bool.not_eq_true'] at h
        unfold rowOk
        rw [List.all_eq_false]
        exact ⟨x, List.mem_of_getElem? hx, by rw [h]; exact Bool.false_ne_true⟩
      rw [e] at q
      exact q
    · walk_at "ss"
      refine ⟨rfl, ⟨_, rfl⟩, ?_⟩
      rw [Bool.not_eq_false'] at h
      unfold rowOk at hall ⊢
      rw [take_succ hx, List.all_append, hall, List.all_cons, h] <;> rfl
  · obtain ⟨rfl, ⟨v, rfl⟩, hall⟩ := p
    rw [List.take_length] at hall
    rw [hall] at q
    walk_at "ss"
    exact q
end
theorem sc_need_shares : FnScope ["shares"] ["shares"] (defScope s_need_shares) := ⟨rfl, rfl, rfl, by decide +kernel, rfl, by decide +kernel, by decide +kernel⟩
section
variable {P : Program} {w : World} {K : PySem.W.Frag} {mg : Str → Option Value} {base : Heap} {A : Adr}
/-- shares that are as they should be are not refused -/
def sp_need_shares : L2.Sp := fun vs H Q _ => ∃ (a : Addr) (ns : List Int), vs = [.ref a] ∧ H a = some (.lst (ns.map V.int)) ∧ Good ns ∧ Q .non H
theorem u_need_shares {H : Hp} {Q : VK} {E : XK} {a : Addr} {ns : List Int} (h : H a = some (.lst (ns.map V.int))) (g : Good ns) (q : Q .non H) : sp_need_shares [.ref a] H Q E := ⟨a, ns, rfl, h, g, q⟩
theorem ok_need_shares (T : Txt K mg A) : FnOk P w K mg base CX0 3 A.f_need_shares A.d_need_shares ["shares"] (sp_need_shares) := by
  have G_whole_row := ok_whole_row (P := P) (w := w) (base := base) T
  refine T.F_need_shares.ok sc_need_shares (fun vs H Q E h => by first | (obtain ⟨rfl, _⟩ := h; rfl) | (obtain ⟨_, rfl, _⟩ := h; rfl) | (obtain ⟨_, _, rfl, _⟩ := h; rfl) | (obtain ⟨_, _, _, rfl, _⟩ := h; rfl) | (obtain ⟨_, _, _, _, rfl, _⟩ := h; rfl) | (obtain ⟨_, _, _, _, _, rfl, _⟩ := h; rfl) | (obtain ⟨_, _, _, _, _, _, rfl, _⟩ := h; rfl) | (obtain ⟨_, _, _, _, _, _, _, rfl, _⟩ := h; rfl) | (obtain ⟨_, _, _, _, _, _, _, _, rfl, _⟩ := h; rfl) | (obtain ⟨_, _, _, _, _, _, _, _, _, rfl, _⟩ := h; rfl)) (fun cdv Ar outer s H vs Q E hr h => ?_)
  obtain ⟨a, ns, rfl, ha, g, q⟩ := h
  have hr_whole_row := hr.mono (by decide : 2 ≤ 2)
  refine ⟨_, (pss_one (ps_if (PW.pt (pw_or (pt_not (pt_val (pe_call G_whole_row hr_whole_row rfl T.g_whole_row T.F_whole_row.kp T.b_whole_row .nil pass0 (pa_cons (pv 0) (pa_cons pe_int pa_nil))))) (pw_or1 (pt_not (pt_chain op_le op_le pe_int (pe_callB call_len_seq (by rfl) T.n_len PySem.boot_len (pa_cons (pv 0) pa_nil)) (pe_glob (v := .int 40) rfl T.c_MOST_SIGNS ⟨_, rfl⟩)))))) (pss_one ps_never)
      pss_nil)), ?_⟩
  refine w_start (σ' := [some _]) rfl ?_
  try dsimp only [cxOf, Cx.nox, Cx.wish]
  walk_at "ss"
  refine u_whole_row ha (fun y hy => by obtain ⟨n, _, rfl⟩ := List.mem_map.mp hy; exact trivial) ?_
  rw [rowOk_ints g.each]
  walk_at "ss"
  rw [List.length_map]
  have h1 := g.pos
  have h2 := g.few
  refine w_ite (fun h => ?_) (fun h => (h (by omega)).elim)
  walk_at "ss"
  refine w_iteKF (by rw [decide_eq_true (by omega)]; rfl) ?_
  walk_at "ss"
  exact q
end
theorem sc_halved : FnScope ["shares", "share"] ["shares"] (defScope s_halved) := ⟨rfl, rfl, rfl, by decide +kernel, rfl, by decide +kernel, by decide +kernel⟩
section
variable {P : Program} {w : World} {K : PySem.W.Frag} {mg : Str → Option Value} {base : Heap} {A : Adr}
def sp_halved (K : PySem.W.Frag) : L2.Sp := fun vs H Q _ => ∃ (a : Addr) (ns : List Int), vs = [.ref a] ∧ SqL K H a (ns.map V.int) ∧ ns.length ≤ sizeLine ∧ ∀ p H', Same H H' → H p = none → H' p = some (.lst ((halvedL ns).map V.int)) → Q (.ref p) H'
theorem u_halved {H : Hp} {Q : VK} {E : XK} {a : Addr} {ns : List Int} (h : SqL K H a (ns.map V.int)) (hz : ns.length ≤ sizeLine) (q : ∀ p H', Same H H' → H p = none → H' p = some (.lst ((halvedL ns).map V.int)) → Q (.ref p) H') : sp_halved K [.ref a] H Q E := ⟨a, ns, rfl, h, hz, q⟩
theorem ok_halved (T : Txt K mg A) : FnOk P w K mg base CX0 1 A.f_halved A.d_halved ["shares"] (sp_halved K) := by
  refine T.F_halved.ok sc_halved (fun vs H Q E h => by first | (obtain ⟨rfl, _⟩ := h; rfl) | (obtain ⟨_, rfl, _⟩ := h; rfl) | (obtain ⟨_, _, rfl, _⟩ := h; rfl) | (obtain ⟨_, _, _, rfl, _⟩ := h; rfl) | (obtain ⟨_, _, _, _, rfl, _⟩ := h; rfl) | (obtain ⟨_, _, _, _, _, rfl, _⟩ := h; rfl) | (obtain ⟨_, _, _, _, _, _, rfl, _⟩ := h; rfl) | (obtain ⟨_, _, _, _, _, _, _, rfl, _⟩ := h; rfl) | (obtain ⟨_, _, _, _, _, _, _, _, rfl, _⟩ := h; rfl) | (obtain ⟨_, _, _, _, _, _, _, _, _, rfl, _⟩ := h; rfl)) (fun cdv Ar outer s H vs Q E hr h => ?_)
  obtain ⟨a, ns, rfl, ha, hz, q⟩ := h
  refine ⟨_, (pss_one (ps_ret (pe_lc (own := [("share", 1)]) (g := gName 1) rfl sc_halved.nd (pi_list (pv 0)) (blkOk_by (own := [("share", 1)]) (N := ["shares", "share"]) (sc := defScope s_halved) (by decide +kernel)) (fun _ _ _ _ _ => (pg_name (i := 1) sc_halved.nd rfl (Or.inl rfl))) (fun _ _ _ _ _ => pts_nil) (fun _ _ _ _ _ => (pe_op op_sub (pv 1) (pe_op op_fdiv (pv 1) pe_int)))))), ?_⟩
  refine w_start (σ' := [some _, none]) rfl ?_
  try dsimp only [cxOf, Cx.nox, Cx.wish]
  walk_at "ss"
  refine lc_pure (walk_list (xs := ns.map V.int)) ((halvedL ns).map V.int) (by simp [halved_length]) (by rw [List.length_map]; exact hz) (fun H' s => s.seq ha) (fun i x y H1 H2 R hi hy s1 hx k => ?_) (fun p H' s hp h => q p H' s hp h)
  obtain ⟨rfl, hx⟩ := hx
  obtain ⟨n, hn, rfl⟩ := map_int hx
  have hy' : y = .int (n - n / 2) := by
    rw [List.getElem?_map] at hy
    unfold halvedL at hy
    rw [List.getElem?_map, hn] at hy
    exact (Option.some.inj hy).symm
  walk_at "ss"
  refine ⟨rfl, ?_⟩
  walk_at "ss"
  rw [hy'] at k
  exact k _ (Same.refl _)
end
theorem sc_learnt : FnScope ["shares", "counts", "cap", "found", "share", "more"] ["shares", "counts", "cap"] (defScope s_learnt) := ⟨rfl, rfl, rfl, by decide +kernel, rfl, by decide +kernel, by decide +kernel⟩
section
variable {P : Program} {w : World} {K : PySem.W.Frag} {mg : Str → Option Value} {base : Heap} {A : Adr}
/-- counts and a cap that go with shares -/
structure GoodL (ns cs : List Int) (cap : Int) : Prop where
  sh : Good ns
  len : cs.length = ns.length
  each : ∀ n ∈ cs, 0 ≤ n ∧ n ≤ mostShare
  lo : (ns.length : Int) ≤ cap
  hi : cap ≤ 1000000
def sp_learnt (K : PySem.W.Frag) : L2.Sp := fun vs H Q _ => ∃ (a b : Addr) (ns cs : List Int) (cap : Int), vs = [.ref a, .ref b, .int cap] ∧ H a = some (.lst (ns.map V.int)) ∧ H b = some (.lst (cs.map V.int)) ∧ GoodL ns cs cap ∧ ∀ p H', Same H H' → H p = none → H' p = some (.lst ((learntL ns cs cap).map V.int)) → Q (.ref p) H'
theorem u_learnt {H : Hp} {Q : VK} {E : XK} {a b : Addr} {ns cs : List Int} {cap : Int} (h1 : H a = some (.lst (ns.map V.int))) (h2 : H b = some (.lst (cs.map V.int))) (g : GoodL ns cs cap) (q : ∀ p H', Same H H' → H p = none → H' p = some (.lst ((learntL ns cs cap).map V.int)) → Q (.ref p) H') : sp_learnt K [.ref a, .ref b, .int cap] H Q E := ⟨a, b, ns, cs, cap, rfl, h1, h2, g, q⟩
theorem ok_learnt (T : Txt K mg A) : FnOk P w K mg base CX0 4 A.f_learnt A.d_learnt ["shares", "counts", "cap"] (sp_learnt K) := by
  have G_halved := ok_halved (P := P) (w := w) (base := base) T
  have G_need_shares := ok_need_shares (P := P) (w := w) (base := base) T
  have G_whole := ok_whole (P := P) (w := w) (base := base) T
  have G_whole_row := ok_whole_row (P := P) (w := w) (base := base) T
  refine T.F_learnt.ok sc_learnt (fun vs H Q E h => by first | (obtain ⟨rfl, _⟩ := h; rfl) | (obtain ⟨_, rfl, _⟩ := h; rfl) | (obtain ⟨_, _, rfl, _⟩ := h; rfl) | (obtain ⟨_, _, _, rfl, _⟩ := h; rfl) | (obtain ⟨_, _, _, _, rfl, _⟩ := h; rfl) | (obtain ⟨_, _, _, _, _, rfl, _⟩ := h; rfl) | (obtain ⟨_, _, _, _, _, _, rfl, _⟩ := h; rfl) | (obtain ⟨_, _, _, _, _, _, _, rfl, _⟩ := h; rfl) | (obtain ⟨_, _, _, _, _, _, _, _, rfl, _⟩ := h; rfl) | (obtain ⟨_, _, _, _, _, _, _, _, _, rfl, _⟩ := h; rfl)) (fun cdv Ar outer s H vs Q E hr h => ?_)
  obtain ⟨a, b, ns, cs, cap, rfl, ha, hb, g, q⟩ := h
  have hr_halved := hr.mono (by decide : 1 ≤ 3)
  have hr_need_shares := hr.mono (by decide : 3 ≤ 3)
  have hr_whole := hr.mono (by decide : 1 ≤ 3)
  have hr_whole_row := hr.mono (by decide : 2 ≤ 3)
  refine ⟨_, (pss_cons (ps_expr (pe_call G_need_shares hr_need_shares rfl T.g_need_shares T.F_need_shares.kp T.b_need_shares .nil pass0 (pa_cons (pv 0) pa_nil)))
      (pss_cons (ps_if (PW.pt (pw_or (pt_not (pt_val (pe_call G_whole_row hr_whole_row rfl T.g_whole_row T.F_whole_row.kp T.b_whole_row .nil pass0 (pa_cons (pv 1) (pa_cons pe_int pa_nil))))) (pw_or1 (pt_cmpR op_ne (pe_callB call_len_seq (by rfl) T.n_len PySem.boot_len (pa_cons (pv 1) pa_nil)) (pe_callB call_len_seq (by rfl) T.n_len PySem.boot_len (pa_cons (pv 0) pa_nil)) (nomark _))))) (pss_one ps_never)
      pss_nil)
      (pss_cons (ps_if (pt_not (pt_val (pe_call G_whole hr_whole rfl T.g_whole T.F_whole.kp T.b_whole .nil pass0 (pa_cons (pv 2) (pa_cons (pe_callB call_len_seq (by rfl) T.n_len PySem.boot_len (pa_cons (pv 0) pa_nil)) (pa_cons (pe_glob (v := .int 1000000) rfl T.c_MOST_CAP ⟨_, rfl⟩) pa_nil)))))) (pss_one ps_never)
      pss_nil)
      (pss_cons (ps_setLc (i := 3) (own := [("share", 4), ("more", 5)]) (g := gTup K 2 (gCons (gName 4) (gCons (gName 5) gNil))) rfl sc_learnt.nd rfl rfl (sw_true rfl rfl rfl (by decide +kernel)) (pi_zip (by rfl) T.n_zip (pa_cons (pv 0) (pa_cons (pv 1) pa_nil))) (blkOk_by (own := [("share", 4), ("more", 5)]) (N := ["shares", "counts", "cap", "found", "share", "more"]) (sc := defScope s_learnt) (by decide +kernel)) (fun _ _ _ _ _ => (pg_tup rfl (pgs_cons (pg_name (i := 4) sc_learnt.nd rfl (Or.inl rfl)) (pgs_cons (pg_name (i := 5) sc_learnt.nd rfl (Or.inl rfl)) pgs_nil)))) (fun _ _ _ _ _ => pts_nil) (fun _ _ _ _ _ => (pe_op op_add (pv 4) (pv 5))))
      (pss_cons (ps_while PassesOwn.never (pt_cmpR op_gt (pe_callB (cr_sum rfl) (by rfl) T.n_sum (by decide +kernel) (pa_cons (pv 3) pa_nil)) (pv 2) (nomark _)) (pss_one (ps_set (i := 3) sc_learnt.nd rfl (Or.inl rfl) (pe_call G_halved hr_halved rfl T.g_halved T.F_halved.kp T.b_halved .nil pass0 (pa_cons (pv 3) pa_nil)))))
      (pss_one (ps_ret (pv 3)))))))), ?_⟩
  refine w_start (σ' := [some _, some _, some _, none, none, none]) rfl ?_
  try dsimp only [cxOf, Cx.nox, Cx.wish]
  walk_at "ss"
  refine u_need_shares ha g.sh ?_
  walk_at "ss"
  refine u_whole_row hb (fun y hy => by obtain ⟨n, _, rfl⟩ := List.mem_map.mp hy; exact trivial) ?_
  rw [rowOk_ints g.each]
  walk_at "ss"
  rw [List.length_map, List.length_map]
  refine w_iteNI (fun h => (h (by rw [g.len])).elim) (fun h => ?_)
  walk_at "ss"
  rw [List.length_map]
  refine u_wholeI ?_
  walk_at "ss"
  refine w_iteKF (by rw [decide_eq_true g.lo, decide_eq_true g.hi]; rfl) ?_
  walk_at "ss"
  have hl := addL_length g.len
  have few := g.sh.few
  refine lc_pure (walk_zip (n := ns.length) (xs := ns.map V.int) (ys := cs.map V.int) (by simp [g.len])) ((addL ns cs).map V.int) (by simp [hl]) (Nat.le_trans few (by decide)) (fun H' s => ⟨s.seq (SqL.of ha), s.seq (SqL.of hb)⟩) (fun i x y H1 H2 R hi hy s1 hx k => ?_) (fun p H' s hp h => ?_)
  · obtain ⟨T', x1, x2, rfl, hT, rfl, hx, hc⟩ := hx
    obtain ⟨m, hm, rfl⟩ := map_int hx
    obtain ⟨n, hn, rfl⟩ := map_int hc
    obtain ⟨z, hz, rfl⟩ := map_int hy
    obtain ⟨m', n', e1, e2, rfl⟩ := addL_get hz
    rw [hm] at e1
    rw [hn] at e2
    cases e1
    cases e2
    refine w_gTup (SqT.of upd_same) rfl ?_
    walk_at "ss"
    refine ⟨rfl, ?_⟩
    walk_at "ss"
    exact k _ (same_new hT)
  · have pos : ∀ x ∈ addL ns cs, 1 ≤ x := addL_pos (fun x hx => (g.sh.each x hx).1) fun y hy => (g.each y hy).1
    have lo := g.lo
    refine w_while (W := fun m σ' H' => ∃ (l : Addr) (xs : List Int) (v w : Option V), m = xs.sum.toNat ∧ σ' = [some (.ref a), some (.ref b), some (.int cap), some (.ref l), v, w] ∧ Same H H' ∧ H l = none ∧ H' l = some (.lst (xs.map V.int)) ∧ xs.length = ns.length ∧ (∀ x ∈ xs, 1 ≤ x) ∧ ∃ n, learntL ns cs cap = shrink n cap xs ∧ xs.sum.toNat ≤ n)
      (m0 := (addL ns cs).sum.toNat) ⟨p, addL ns cs, none, none, rfl, rfl, s, hp, h, hl, pos, _, rfl, Nat.le_refl _⟩ ?_
    rintro m σ' H1 ⟨l, xs, v, w, rfl, rfl, s1, hl0, hl1, hlen, hpos, n, e, hn⟩
    walk_at "ss"
    refine w_ite (fun hs => ?_) (fun hs => ?_)
    · walk_at "ss"
      refine u_halved (SqL.of hl1) (by rw [hlen]; exact Nat.le_trans few (by decide)) (fun p2 H2 s2 hp2 h2 => ?_)
      obtain ⟨n', e', hn', less⟩ := shrink_turn hpos (by rw [hlen]; exact lo) hs hn
      refine ⟨_, less, p2, halvedL xs, v, w, rfl, rfl, s1.trans s2, s1.free hp2, h2, by rw [halved_length, hlen], halved_pos hpos, n', by rw [e, e'], hn'⟩
    · walk_at "ss"
      refine q l H1 s1 hl0 ?_
      rw [e, shrink_done hs]
      exact hl1
end
theorem sc_law_whole : FnScope ["_law_found"] ["_law_found"] (defScope s_law_whole) := ⟨rfl, rfl, rfl, by decide +kernel, rfl, by decide +kernel, by decide +kernel⟩
section
variable {P : Program} {w : World} {K : PySem.W.Frag} {mg : Str → Option Value} {base : Heap} {A : Adr}
def sp_law_whole : L2.Sp := fun vs H Q _ => ∃ i : Int, vs = [.int i] ∧ Q (.bl true) H
theorem u_law_whole {H : Hp} {Q : VK} {E : XK} {i : Int} (q : Q (.bl true) H) : sp_law_whole [.int i] H Q E := ⟨i, rfl, q⟩
theorem ok_law_whole (T : Txt K mg A) : FnOk P w K mg base CX0 1 A.f_law_whole A.d_law_whole ["_law_found"] (sp_law_whole) := by
  refine T.F_law_whole.ok sc_law_whole (fun vs H Q E h => by first | (obtain ⟨rfl, _⟩ := h; rfl) | (obtain ⟨_, rfl, _⟩ := h; rfl) | (obtain ⟨_, _, rfl, _⟩ := h; rfl) | (obtain ⟨_, _, _, rfl, _⟩ := h; rfl) | (obtain ⟨_, _, _, _, rfl, _⟩ := h; rfl) | (obtain ⟨_, _, _, _, _, rfl, _⟩ := h; rfl) | (obtain ⟨_, _, _, _, _, _, rfl, _⟩ := h; rfl) | (obtain ⟨_, _, _, _, _, _, _, rfl, _⟩ := h; rfl) | (obtain ⟨_, _, _, _, _, _, _, _, rfl, _⟩ := h; rfl) | (obtain ⟨_, _, _, _, _, _, _, _, _, rfl, _⟩ := h; rfl)) (fun cdv Ar outer s H vs Q E hr h => ?_)
  obtain ⟨i, rfl, q⟩ := h
  refine ⟨_, (pss_one (ps_ret (pe_and (pe_callB call_isi (by rfl) T.n_isinstance (by decide +kernel) (pa_cons (pv 0) (pa_cons (pe_bltn (v := .ty "int") (by rfl) T.n_int (by decide +kernel) rfl) pa_nil))) (pe_one (pe_not (pe_callB call_isi (by rfl) T.n_isinstance (by decide +kernel) (pa_cons (pv 0) (pa_cons (pe_bltn (v := .ty "bool") (by rfl) T.n_bool (by decide +kernel) rfl) pa_nil)))))))), ?_⟩
  refine w_start (σ' := [some _]) rfl ?_
  try dsimp only [cxOf, Cx.nox, Cx.wish]
  walk_at "ss"
  exact q
end
theorem sc_law_cell_at : FnScope ["_law_script", "_law_k"] ["_law_script", "_law_k"] (defScope s_law_cell_at) := ⟨rfl, rfl, rfl, by decide +kernel, rfl, by decide +kernel, by decide +kernel⟩
section
variable {P : Program} {w : World} {K : PySem.W.Frag} {mg : Str → Option Value} {base : Heap} {A : Adr}
def sp_cell_at (K : PySem.W.Frag) : L2.Sp := fun vs H Q _ => ∃ (a : Addr) (ns : List Int) (k : Int), vs = [.ref a, .int k] ∧ SqL K H a (ns.map V.int) ∧ 0 ≤ k ∧ Q (.int (cellAt ns k)) H
theorem u_cell_at {H : Hp} {Q : VK} {E : XK} {a : Addr} {ns : List Int} {k : Int} (h : SqL K H a (ns.map V.int)) (hk : 0 ≤ k) (q : Q (.int (cellAt ns k)) H) : sp_cell_at K [.ref a, .int k] H Q E := ⟨a, ns, k, rfl, h, hk, q⟩
theorem ok_law_cell_at (T : Txt K mg A) : FnOk P w K mg base CX0 1 A.f_law_cell_at A.d_law_cell_at ["_law_script", "_law_k"] (sp_cell_at K) := by
  refine T.F_law_cell_at.ok sc_law_cell_at (fun vs H Q E h => by first | (obtain ⟨rfl, _⟩ := h; rfl) | (obtain ⟨_, rfl, _⟩ := h; rfl) | (obtain ⟨_, _, rfl, _⟩ := h; rfl) | (obtain ⟨_, _, _, rfl, _⟩ := h; rfl) | (obtain ⟨_, _, _, _, rfl, _⟩ := h; rfl) | (obtain ⟨_, _, _, _, _, rfl, _⟩ := h; rfl) | (obtain ⟨_, _, _, _, _, _, rfl, _⟩ := h; rfl) | (obtain ⟨_, _, _, _, _, _, _, rfl, _⟩ := h; rfl) | (obtain ⟨_, _, _, _, _, _, _, _, rfl, _⟩ := h; rfl) | (obtain ⟨_, _, _, _, _, _, _, _, _, rfl, _⟩ := h; rfl)) (fun cdv Ar outer s H vs Q E hr h => ?_)
  obtain ⟨a, ns, k, rfl, hS, hk, q⟩ := h
  refine ⟨_, (pss_cons (ps_if (pt_cmpR op_lt (pv 1) (pe_callB call_len_seq (by rfl) T.n_len PySem.boot_len (pa_cons (pv 0) pa_nil)) (nomark _)) (pss_one (ps_ret (pe_ix ix_list (pv 0) (pv 1) (fun _ _ => rfl))))
      pss_nil)
      (pss_one (ps_ret pe_int))), ?_⟩
  refine w_start (σ' := [some _, some _]) rfl ?_
  try dsimp only [cxOf, Cx.nox, Cx.wish]
  walk_at "ss"
  rw [List.length_map]
  refine w_ite (fun h => ?_) (fun h => ?_)
  · walk_at "ss"
    refine w_ixL hS (atI_int hk h) ?_
    rw [cellAt, if_pos h] at q
    exact q
  · walk_at "ss"
    rw [cellAt, if_neg h] at q
    exact q
end
theorem sc_law_share_by : FnScope ["_law_cell"] ["_law_cell"] (defScope s_law_share_by) := ⟨rfl, rfl, rfl, by decide +kernel, rfl, by decide +kernel, by decide +kernel⟩
section
variable {P : Program} {w : World} {K : PySem.W.Frag} {mg : Str → Option Value} {base : Heap} {A : Adr}
def sp_share_by : L2.Sp := fun vs H Q _ => ∃ c : Int, vs = [.int c] ∧ Q (.int (shareBy c)) H
theorem u_share_by {H : Hp} {Q : VK} {E : XK} {c : Int} (q : Q (.int (shareBy c)) H) : sp_share_by [.int c] H Q E := ⟨c, rfl, q⟩
theorem ok_law_share_by (T : Txt K mg A) : FnOk P w K mg base CX0 1 A.f_law_share_by A.d_law_share_by ["_law_cell"] (sp_share_by) := by
  refine T.F_law_share_by.ok sc_law_share_by (fun vs H Q E h => by first | (obtain ⟨rfl, _⟩ := h; rfl) | (obtain ⟨_, rfl, _⟩ := h; rfl) | (obtain ⟨_, _, rfl, _⟩ := h; rfl) | (obtain ⟨_, _, _, rfl, _⟩ := h; rfl) | (obtain ⟨_, _, _, _, rfl, _⟩ := h; rfl) | (obtain ⟨_, _, _, _, _, rfl, _⟩ := h; rfl) | (obtain ⟨_, _, _, _, _, _, rfl, _⟩ := h; rfl) | (obtain ⟨_, _, _, _, _, _, _, rfl, _⟩ := h; rfl) | (obtain ⟨_, _, _, _, _, _, _, _, rfl, _⟩ := h; rfl) | (obtain ⟨_, _, _, _, _, _, _, _, _, rfl, _⟩ := h; rfl)) (fun cdv Ar outer s H vs Q E hr h => ?_)
  obtain ⟨c, rfl, q⟩ := h
  refine ⟨_, (pss_cons (ps_if (pt_cmpR op_eq (pe_op op_mod (pv 0) pe_int) pe_int (nomark _)) (pss_one (ps_ret (pe_op op_add pe_int (pe_op op_mod (pe_op op_fdiv (pv 0) pe_int) pe_int))))
      pss_nil)
      (pss_cons (ps_if (pt_cmpR op_eq (pe_op op_mod (pv 0) pe_int) pe_int (nomark _)) (pss_one (ps_ret (pe_op op_add pe_int (pe_op op_mod (pe_op op_fdiv (pv 0) pe_int) pe_int))))
      pss_nil)
      (pss_one (ps_ret (pe_op op_add pe_int (pe_op op_mod (pe_op op_fdiv (pv 0) pe_int) pe_int)))))), ?_⟩
  refine w_start (σ' := [some _]) rfl ?_
  try dsimp only [cxOf, Cx.nox, Cx.wish]
  unfold shareBy at q
  walk_at "ss"
  rw [dec_int]
  refine w_iteB (fun h => ?_) (fun h => ?_)
  all_goals simp only [beq_iff_eq, beq_eq_false_iff_ne, ne_eq] at h
  · walk_at "ss"
    rw [if_pos h] at q
    exact q
  · rw [if_neg h] at q
    walk_at "ss"
    rw [dec_int]
    refine w_iteB (fun h => ?_) (fun h => ?_)
    all_goals simp only [beq_iff_eq, beq_eq_false_iff_ne, ne_eq] at h
    · walk_at "ss"
      rw [if_pos h] at q
      exact q
    · walk_at "ss"
      rw [if_neg h] at q
      exact q
end
theorem sc_law_many_by : FnScope ["_law_cell"] ["_law_cell"] (defScope s_law_many_by) := ⟨rfl, rfl, rfl, by decide +kernel, rfl, by decide +kernel, by decide +kernel⟩
section
variable {P : Program} {w : World} {K : PySem.W.Frag} {mg : Str → Option Value} {base : Heap} {A : Adr}
def sp_many_by : L2.Sp := fun vs H Q _ => ∃ c : Int, vs = [.int c] ∧ Q (.int (manyBy c)) H
theorem u_many_by {H : Hp} {Q : VK} {E : XK} {c : Int} (q : Q (.int (manyBy c)) H) : sp_many_by [.int c] H Q E := ⟨c, rfl, q⟩
theorem ok_law_many_by (T : Txt K mg A) : FnOk P w K mg base CX0 1 A.f_law_many_by A.d_law_many_by ["_law_cell"] (sp_many_by) := by
  refine T.F_law_many_by.ok sc_law_many_by (fun vs H Q E h => by first | (obtain ⟨rfl, _⟩ := h; rfl) | (obtain ⟨_, rfl, _⟩ := h; rfl) | (obtain ⟨_, _, rfl, _⟩ := h; rfl) | (obtain ⟨_, _, _, rfl, _⟩ := h; rfl) | (obtain ⟨_, _, _, _, rfl, _⟩ := h; rfl) | (obtain ⟨_, _, _, _, _, rfl, _⟩ := h; rfl) | (obtain ⟨_, _, _, _, _, _, rfl, _⟩ := h; rfl) | (obtain ⟨_, _, _, _, _, _, _, rfl, _⟩ := h; rfl) | (obtain ⟨_, _, _, _, _, _, _, _, rfl, _⟩ := h; rfl) | (obtain ⟨_, _, _, _, _, _, _, _, _, rfl, _⟩ := h; rfl)) (fun cdv Ar outer s H vs Q E hr h => ?_)
  obtain ⟨c, rfl, q⟩ := h
  refine ⟨_, (pss_cons (ps_if (pt_cmpR op_eq (pe_op op_mod (pe_op op_fdiv (pv 0) pe_int) pe_int) pe_int (nomark _)) (pss_one (ps_ret (pe_op op_add pe_int (pe_op op_mod (pe_op op_fdiv (pv 0) pe_int) pe_int))))
      pss_nil)
      (pss_one (ps_ret (pe_op op_add pe_int (pe_op op_mod (pv 0) pe_int))))), ?_⟩
  refine w_start (σ' := [some _]) rfl ?_
  try dsimp only [cxOf, Cx.nox, Cx.wish]
  unfold manyBy at q
  walk_at "ss"
  refine w_iteI (fun h => ?_) (fun h => ?_)
  · walk_at "ss"
    rw [if_pos h] at q
    exact q
  · walk_at "ss"
    rw [if_neg h] at q
    exact q
end
theorem sc_law_numbers_alike : FnScope ["_law_found", "_law_due", "_law_one", "_law_own"] ["_law_found", "_law_due"] (defScope s_law_numbers_alike) := ⟨rfl, rfl, rfl, by decide +kernel, rfl, by decide +kernel, by decide +kernel⟩
section
variable {P : Program} {w : World} {K : PySem.W.Frag} {mg : Str → Option Value} {base : Heap} {A : Adr}
def sp_numbers_alike (K : PySem.W.Frag) : L2.Sp := fun vs H Q _ => ∃ (a b : Addr) (xs ys : List Int), vs = [.ref a, .ref b] ∧ H a = some (.lst (xs.map V.int)) ∧ SqL K H b (ys.map V.int) ∧ ∀ H', Same H H' → Q (.bl (decide (xs = ys))) H'
theorem u_numbers_alike {H : Hp} {Q : VK} {E : XK} {a b : Addr} {xs ys : List Int} (h1 : H a = some (.lst (xs.map V.int))) (h2 : SqL K H b (ys.map V.int)) (q : ∀ H', Same H H' → Q (.bl (decide (xs = ys))) H') : sp_numbers_alike K [.ref a, .ref b] H Q E := ⟨a, b, xs, ys, rfl, h1, h2, q⟩
theorem ok_law_numbers_alike (T : Txt K mg A) : FnOk P w K mg base CX0 2 A.f_law_numbers_alike A.d_law_numbers_alike ["_law_found", "_law_due"] (sp_numbers_alike K) := by
  have G_law_whole := ok_law_whole (P := P) (w := w) (base := base) T
  refine T.F_law_numbers_alike.ok sc_law_numbers_alike (fun vs H Q E h => by first | (obtain ⟨rfl, _⟩ := h; rfl) | (obtain ⟨_, rfl, _⟩ := h; rfl) | (obtain ⟨_, _, rfl, _⟩ := h; rfl) | (obtain ⟨_, _, _, rfl, _⟩ := h; rfl) | (obtain ⟨_, _, _, _, rfl, _⟩ := h; rfl) | (obtain ⟨_, _, _, _, _, rfl, _⟩ := h; rfl) | (obtain ⟨_, _, _, _, _, _, rfl, _⟩ := h; rfl) | (obtain ⟨_, _, _, _, _, _, _, rfl, _⟩ := h; rfl) | (obtain ⟨_, _, _, _, _, _, _, _, rfl, _⟩ := h; rfl) | (obtain ⟨_, _, _, _, _, _, _, _, _, rfl, _⟩ := h; rfl)) (fun cdv Ar outer s H vs Q E hr h => ?_)
  obtain ⟨a, b, xs, ys, rfl, ha, hb, q⟩ := h
  have hr_law_whole := hr.mono (by decide : 1 ≤ 1)
  refine ⟨_, (pss_cons (ps_if (PW.pt (pw_or (pt_not (pt_val (pe_callB call_isi (by rfl) T.n_isinstance (by decide +kernel) (pa_cons (pv 0) (pa_cons (pe_bltn (v := .ty "list") (by rfl) T.n_list (by decide +kernel) rfl) pa_nil))))) (pw_or1 (pt_cmpR op_ne (pe_callB call_len_seq (by rfl) T.n_len PySem.boot_len (pa_cons (pv 0) pa_nil)) (pe_callB call_len_seq (by rfl) T.n_len PySem.boot_len (pa_cons (pv 1) pa_nil)) (nomark _))))) (pss_one (ps_ret pe_bl))
      pss_nil)
      (pss_cons (ps_for PassesOwn.never rfl (pi_zip (by rfl) T.n_zip (pa_cons (pv 0) (pa_cons (pv 1) pa_nil))) (pg_tup rfl (pgs_cons (pg_name (i := 2) sc_law_numbers_alike.nd rfl (Or.inl rfl)) (pgs_cons (pg_name (i := 3) sc_law_numbers_alike.nd rfl (Or.inl rfl)) pgs_nil)))
      (pss_one (ps_if (PW.pt (pw_or (pt_not (pt_val (pe_call G_law_whole hr_law_whole rfl T.g_law_whole T.F_law_whole.kp T.b_law_whole .nil pass0 (pa_cons (pv 2) pa_nil)))) (pw_or1 (pt_cmpR op_ne (pv 2) (pv 3) (nomark _))))) (pss_one (ps_ret pe_bl))
      pss_nil)))
      (pss_one (ps_ret pe_bl)))), ?_⟩
  refine w_start (σ' := [some _, some _, none, none]) rfl ?_
  try dsimp only [cxOf, Cx.nox, Cx.wish]
  walk_at "ss"
  rw [List.length_map, List.length_map]
  refine w_iteNI (fun h => ?_) (fun h => ?_)
  · walk_at "ss"
    rw [decide_eq_false (fun e => h (by rw [e]))] at q
    exact q _ (Same.refl _)
  · walk_at "ss"
    have hl : xs.length = ys.length := by omega
    refine for_it (walk_zip (n := xs.length) (xs := xs.map V.int) (ys := ys.map V.int) (by simp [hl])) (fun i σ' H' => Same H H' ∧ (∃ v w, σ' = [some (.ref a), some (.ref b), v, w]) ∧ xs.take i = ys.take i) ⟨Same.refl _, ⟨_, _, rfl⟩, rfl⟩ (fun i σ' H' _ p => ⟨p.1.seq (SqL.of ha), p.1.seq hb⟩) (fun i x σ' H' H2 hi p y => ?_) (fun σ' H' p => ?_)
    · obtain ⟨s1, ⟨v, w, rfl⟩, hall⟩ := p
      obtain ⟨T', x1, x2, rfl, hT, rfl, hx, hy⟩ := y
      obtain ⟨m, hm, rfl⟩ := map_int hx
      obtain ⟨n, hn, rfl⟩ := map_int hy
      have s2 := Same.new s1 hT (o := .tup [V.int m, V.int n])
      refine w_gTup (SqT.of upd_same) rfl ?_
      walk_at "ss"
      refine u_law_whole ?_
      walk_at "ss"
      refine w_iteNI (fun h => ?_) (fun h => ?_)
      · walk_at "ss"
        rw [decide_eq_false (fun e => h (by rw [e, hn] at hm; exact (Option.some.inj hm).symm))] at q
        exact q _ s2
      · walk_at "ss"
        refine ⟨s2, ⟨_, _, rfl⟩, ?_⟩
        rw [take_succ hm, take_succ hn, hall, h]
    · obtain ⟨s1, ⟨v, w, rfl⟩, hall⟩ := p
      rw [List.take_length, hl, List.take_length] at hall
      rw [decide_eq_true hall] at q
      walk_at "ss"
      exact q _ s1
end
theorem sc_law_learnt_by : FnScope ["_law_shares", "_law_counts", "_law_cap", "_law_found", "_law_one", "_law_more"] ["_law_shares", "_law_counts", "_law_cap"] (defScope s_law_learnt_by) := ⟨rfl, rfl, rfl, by decide +kernel, rfl, by decide +kernel, by decide +kernel⟩
section
variable {P : Program} {w : World} {K : PySem.W.Frag} {mg : Str → Option Value} {base : Heap} {A : Adr}
def sp_learnt_by (K : PySem.W.Frag) : L2.Sp := fun vs H Q _ => ∃ (a b : Addr) (ns cs : List Int) (cap : Int), vs = [.ref a, .ref b, .int cap] ∧ SqL K H a (ns.map V.int) ∧ SqL K H b (cs.map V.int) ∧ cs.length = ns.length ∧ ns.length ≤ 40 ∧ (∀ n ∈ ns, 1 ≤ n) ∧ (∀ n ∈ cs, 0 ≤ n) ∧ (ns.length : Int) ≤ cap ∧
  ∀ p H', Same H H' → H p = none → H' p = some (.lst ((learntL ns cs cap).map V.int)) → Q (.ref p) H'
theorem u_learnt_by {H : Hp} {Q : VK} {E : XK} {a b : Addr} {ns cs : List Int} {cap : Int} (h1 : SqL K H a (ns.map V.int)) (h2 : SqL K H b (cs.map V.int)) (g1 : cs.length = ns.length) (g2 : ns.length ≤ 40) (g3 : ∀ n ∈ ns, 1 ≤ n) (g4 : ∀ n ∈ cs, 0 ≤ n) (g5 : (ns.length : Int) ≤ cap)
  (q : ∀ p H', Same H H' → H p = none → H' p = some (.lst ((learntL ns cs cap).map V.int)) → Q (.ref p) H') : sp_learnt_by K [.ref a, .ref b, .int cap] H Q E := ⟨a, b, ns, cs, cap, rfl, h1, h2, g1, g2, g3, g4, g5, q⟩
theorem ok_law_learnt_by (T : Txt K mg A) : FnOk P w K mg base CX0 1 A.f_law_learnt_by A.d_law_learnt_by ["_law_shares", "_law_counts", "_law_cap"] (sp_learnt_by K) := by
  refine T.F_law_learnt_by.ok sc_law_learnt_by (fun vs H Q E h => by first | (obtain ⟨rfl, _⟩ := h; rfl) | (obtain ⟨_, rfl, _⟩ := h; rfl) | (obtain ⟨_, _, rfl, _⟩ := h; rfl) | (obtain ⟨_, _, _, rfl, _⟩ := h; rfl) | (obtain ⟨_, _, _, _, rfl, _⟩ := h; rfl) | (obtain ⟨_, _, _, _, _, rfl, _⟩ := h; rfl) | (obtain ⟨_, _, _, _, _, _, rfl, _⟩ := h; rfl) | (obtain ⟨_, _, _, _, _, _, _, rfl, _⟩ := h; rfl) | (obtain ⟨_, _, _, _, _, _, _, _, rfl, _⟩ := h; rfl) | (obtain ⟨_, _, _, _, _, _, _, _, _, rfl, _⟩ := h; rfl)) (fun cdv Ar outer s H vs Q E hr h => ?_)
  obtain ⟨a, b, ns, cs, cap, rfl, ha, hb, g1, few, g3, g4, lo, q⟩ := h
  refine ⟨_, (pss_cons (ps_setLc (i := 3) (own := [("_law_one", 4), ("_law_more", 5)]) (g := gTup K 2 (gCons (gName 4) (gCons (gName 5) gNil))) rfl sc_law_learnt_by.nd rfl rfl (sw_true rfl rfl rfl (by decide +kernel)) (pi_zip (by rfl) T.n_zip (pa_cons (pv 0) (pa_cons (pv 1) pa_nil))) (blkOk_by (own := [("_law_one", 4), ("_law_more", 5)]) (N := ["_law_shares", "_law_counts", "_law_cap", "_law_found", "_law_one", "_law_more"]) (sc := defScope s_law_learnt_by) (by decide +kernel)) (fun _ _ _ _ _ => (pg_tup rfl (pgs_cons (pg_name (i := 4) sc_law_learnt_by.nd rfl (Or.inl rfl)) (pgs_cons (pg_name (i := 5) sc_law_learnt_by.nd rfl (Or.inl rfl)) pgs_nil)))) (fun _ _ _ _ _ => pts_nil) (fun _ _ _ _ _ => (pe_op op_add (pv 4) (pv 5))))
      (pss_cons (ps_while PassesOwn.never (pt_cmpR op_gt (pe_callB (cr_sum rfl) (by rfl) T.n_sum (by decide +kernel) (pa_cons (pv 3) pa_nil)) (pv 2) (nomark _)) (pss_one (ps_setLc (i := 3) (own := [("_law_one", 4)]) (g := gName 4) rfl sc_law_learnt_by.nd rfl rfl (sw_true rfl rfl rfl (by decide +kernel)) (pi_list (pv 3)) (blkOk_by (own := [("_law_one", 4)]) (N := ["_law_shares", "_law_counts", "_law_cap", "_law_found", "_law_one", "_law_more"]) (sc := defScope s_law_learnt_by) (by decide +kernel)) (fun _ _ _ _ _ => (pg_name (i := 4) sc_law_learnt_by.nd rfl (Or.inl rfl))) (fun _ _ _ _ _ => pts_nil) (fun _ _ _ _ _ => (pe_op op_sub (pv 4) (pe_op op_fdiv (pv 4) pe_int))))))
      (pss_one (ps_ret (pv 3))))), ?_⟩
  refine w_start (σ' := [some _, some _, some _, none, none, none]) rfl ?_
  try dsimp only [cxOf, Cx.nox, Cx.wish]
  walk_at "ss"
  have hl := addL_length g1
  refine lc_pure (walk_zip (n := ns.length) (xs := ns.map V.int) (ys := cs.map V.int) (by simp [g1])) ((addL ns cs).map V.int) (by simp [hl]) (Nat.le_trans few (by decide)) (fun H' s => ⟨s.seq ha, s.seq hb⟩) (fun i x y H1 H2 R hi hy s1 hx k => ?_) (fun p H' s hp h => ?_)
  · obtain ⟨T', x1, x2, rfl, hT, rfl, hx, hc⟩ := hx
    obtain ⟨m, hm, rfl⟩ := map_int hx
    obtain ⟨n, hn, rfl⟩ := map_int hc
    obtain ⟨z, hz, rfl⟩ := map_int hy
    obtain ⟨m', n', e1, e2, rfl⟩ := addL_get hz
    rw [hm] at e1
    rw [hn] at e2
    cases e1
    cases e2
    refine w_gTup (SqT.of upd_same) rfl ?_
    walk_at "ss"
    refine ⟨rfl, ?_⟩
    walk_at "ss"
    exact k _ (same_new hT)
  · have pos : ∀ x ∈ addL ns cs, 1 ≤ x := addL_pos g3 g4
    refine w_while (W := fun m σ' H' => ∃ (l : Addr) (xs : List Int) (v w : Option V), m = xs.sum.toNat ∧ σ' = [some (.ref a), some (.ref b), some (.int cap), some (.ref l), v, w] ∧ Same H H' ∧ H l = none ∧ H' l = some (.lst (xs.map V.int)) ∧ xs.length = ns.length ∧ (∀ x ∈ xs, 1 ≤ x) ∧ ∃ n, learntL ns cs cap = shrink n cap xs ∧ xs.sum.toNat ≤ n)
      (m0 := (addL ns cs).sum.toNat) ⟨p, addL ns cs, none, none, rfl, rfl, s, hp, h, hl, pos, _, rfl, Nat.le_refl _⟩ ?_
    rintro m σ' H1 ⟨l, xs, v, w, rfl, rfl, s1, hl0, hl1, hlen, hpos, n, e, hn⟩
    walk_at "ss"
    refine w_ite (fun hs => ?_) (fun hs => ?_)
    · walk_at "ss"
      obtain ⟨n', e', hn', less⟩ := shrink_turn hpos (by rw [hlen]; exact lo) hs hn
      refine lc_pure (walk_list (xs := xs.map V.int)) ((halvedL xs).map V.int) (by simp [halved_length]) (by rw [List.length_map, hlen]; exact Nat.le_trans few (by decide)) (fun H' s => s.seq (SqL.of hl1)) (fun i x y H3 H4 R hi hy s3 hx k => ?_) (fun p2 H2 s2 hp2 h2 => ?_)
      · obtain ⟨rfl, hx⟩ := hx
        obtain ⟨n, hn, rfl⟩ := map_int hx
        have hy' : y = .int (n - n / 2) := by
          rw [List.getElem?_map] at hy
          unfold halvedL at hy
          rw [List.getElem?_map, hn] at hy
          exact (Option.some.inj hy).symm
        walk_at "ss"
        refine ⟨rfl, ?_⟩
        walk_at "ss"
        rw [hy'] at k
        exact k _ (Same.refl _)
      · exact ⟨_, less, p2, halvedL xs, v, w, rfl, rfl, s1.trans s2, s1.free hp2, h2, by rw [halved_length, hlen], halved_pos hpos, n', by rw [e, e'], hn'⟩
    · walk_at "ss"
      refine q l H1 s1 hl0 ?_
      rw [e, shrink_done hs]
      exact hl1
end
theorem sc_law : FnScope ["_law_script", "_law_many", "_law_shares", "_law_counts", "_law_cap", "_law_ones", "_law_others", "_law_found", "_law_k"] ["_law_script"] (defScope s_law) := ⟨rfl, rfl, rfl, by decide +kernel, rfl, by decide +kernel, by decide +kernel⟩
section
variable {P : Program} {w : World} {K : PySem.W.Frag} {mg : Str → Option Value} {base : Heap} {A : Adr}
def sp_law (K : PySem.W.Frag) : L2.Sp := fun vs H Q _ => ∃ (a : Addr) (ns : List Int), vs = [.ref a] ∧ SqL K H a (ns.map V.int) ∧ ns.length ≤ 63 ∧ ∀ H', Q (.bl true) H'
theorem k01_tail {xs cs : List Int} {cap : Int} (g : GoodL xs cs cap) : (∀ n ∈ xs, 1 ≤ n) ∧ ∀ n ∈ cs, 0 ≤ n := ⟨fun n h => (g.sh.each n h).1, fun n h => (g.each n h).1⟩
theorem ok_law (T : Txt K mg A) : FnOk P w K mg base CX0 5 A.f_law A.d_law ["_law_script"] (sp_law K) := by
  have G_law_cell_at := ok_law_cell_at (P := P) (w := w) (base := base) T
  have G_law_learnt_by := ok_law_learnt_by (P := P) (w := w) (base := base) T
  have G_law_many_by := ok_law_many_by (P := P) (w := w) (base := base) T
  have G_law_numbers_alike := ok_law_numbers_alike (P := P) (w := w) (base := base) T
  have G_law_share_by := ok_law_share_by (P := P) (w := w) (base := base) T
  have G_learnt := ok_learnt (P := P) (w := w) (base := base) T
  refine T.F_law.ok sc_law (fun vs H Q E h => by first | (obtain ⟨rfl, _⟩ := h; rfl) | (obtain ⟨_, rfl, _⟩ := h; rfl) | (obtain ⟨_, _, rfl, _⟩ := h; rfl) | (obtain ⟨_, _, _, rfl, _⟩ := h; rfl) | (obtain ⟨_, _, _, _, rfl, _⟩ := h; rfl) | (obtain ⟨_, _, _, _, _, rfl, _⟩ := h; rfl) | (obtain ⟨_, _, _, _, _, _, rfl, _⟩ := h; rfl) | (obtain ⟨_, _, _, _, _, _, _, rfl, _⟩ := h; rfl) | (obtain ⟨_, _, _, _, _, _, _, _, rfl, _⟩ := h; rfl) | (obtain ⟨_, _, _, _, _, _, _, _, _, rfl, _⟩ := h; rfl)) (fun cdv Ar outer s H vs Q E hr h => ?_)
  obtain ⟨a, ns, rfl, hS, hl, q⟩ := h
  have hr_law_cell_at := hr.mono (by decide : 1 ≤ 4)
  have hr_law_learnt_by := hr.mono (by decide : 1 ≤ 4)
  have hr_law_many_by := hr.mono (by decide : 1 ≤ 4)
  have hr_law_numbers_alike := hr.mono (by decide : 2 ≤ 4)
  have hr_law_share_by := hr.mono (by decide : 1 ≤ 4)
  have hr_learnt := hr.mono (by decide : 4 ≤ 4)
  refine ⟨_, (pss_cons (ps_set (i := 1) sc_law.nd rfl (Or.inl rfl) (pe_call G_law_many_by hr_law_many_by rfl T.g_law_many_by T.F_law_many_by.kp T.b_law_many_by .nil pass0 (pa_cons (pe_call G_law_cell_at hr_law_cell_at rfl T.g_law_cell_at T.F_law_cell_at.kp T.b_law_cell_at .nil pass0 (pa_cons (pv 0) (pa_cons pe_int pa_nil))) pa_nil)))
      (pss_cons (ps_setLc (i := 2) (own := [("_law_k", 8)]) (g := gName 8) rfl sc_law.nd rfl rfl (sw_true rfl rfl rfl (by decide +kernel)) (pi_range1 rfl T.n_range (pa_cons (pv 1) pa_nil)) (blkOk_by (own := [("_law_k", 8)]) (N := ["_law_script", "_law_many", "_law_shares", "_law_counts", "_law_cap", "_law_ones", "_law_others", "_law_found", "_law_k"]) (sc := defScope s_law) (by decide +kernel)) (fun _ _ _ _ _ => (pg_name (i := 8) sc_law.nd rfl (Or.inl rfl))) (fun _ _ _ _ _ => pts_nil) (fun _ _ _ _ _ => (pe_call G_law_share_by hr_law_share_by rfl T.g_law_share_by T.F_law_share_by.kp T.b_law_share_by .nil pass0 (pa_cons (pe_call G_law_cell_at hr_law_cell_at rfl T.g_law_cell_at T.F_law_cell_at.kp T.b_law_cell_at .nil pass0 (pa_cons (pv 0) (pa_cons (pe_op op_add pe_int (pe_op op_mul pe_int (pv 8))) pa_nil))) pa_nil))))
      (pss_cons (ps_setLc (i := 3) (own := [("_law_k", 8)]) (g := gName 8) rfl sc_law.nd rfl rfl (sw_true rfl rfl rfl (by decide +kernel)) (pi_range1 rfl T.n_range (pa_cons (pv 1) pa_nil)) (blkOk_by (own := [("_law_k", 8)]) (N := ["_law_script", "_law_many", "_law_shares", "_law_counts", "_law_cap", "_law_ones", "_law_others", "_law_found", "_law_k"]) (sc := defScope s_law) (by decide +kernel)) (fun _ _ _ _ _ => (pg_name (i := 8) sc_law.nd rfl (Or.inl rfl))) (fun _ _ _ _ _ => pts_nil) (fun _ _ _ _ _ => (pe_op op_sub (pe_call G_law_share_by hr_law_share_by rfl T.g_law_share_by T.F_law_share_by.kp T.b_law_share_by .nil pass0 (pa_cons (pe_call G_law_cell_at hr_law_cell_at rfl T.g_law_cell_at T.F_law_cell_at.kp T.b_law_cell_at .nil pass0 (pa_cons (pv 0) (pa_cons (pe_op op_add pe_int (pe_op op_mul pe_int (pv 8))) pa_nil))) pa_nil)) pe_int)))
      (pss_cons (ps_set (i := 4) sc_law.nd rfl (Or.inl rfl) (pe_op op_add (pv 1) (pe_op op_mod (pe_call G_law_cell_at hr_law_cell_at rfl T.g_law_cell_at T.F_law_cell_at.kp T.b_law_cell_at .nil pass0 (pa_cons (pv 0) (pa_cons pe_int pa_nil))) pe_int)))
      (pss_cut (ps_if (pt_cmpR op_eq (pe_op op_mod (pe_op op_fdiv (pe_call G_law_cell_at hr_law_cell_at rfl T.g_law_cell_at T.F_law_cell_at.kp T.b_law_cell_at .nil pass0 (pa_cons (pv 0) (pa_cons pe_int pa_nil))) pe_int) pe_int) pe_int (nomark _)) (pss_one (ps_set (i := 4) sc_law.nd rfl (Or.inl rfl) (pe_op op_add (pv 1) (pe_op op_mod (pe_op op_fdiv (pe_call G_law_cell_at hr_law_cell_at rfl T.g_law_cell_at T.F_law_cell_at.kp T.b_law_cell_at .nil pass0 (pa_cons (pv 0) (pa_cons pe_int pa_nil))) pe_int) (pe_op op_sub pe_int (pv 1))))))
      pss_nil)
      (pss_cons (ps_set (i := 5) sc_law.nd rfl (Or.inl rfl) (pe_callTy call_list_of (by rfl) T.n_list (by decide +kernel) (pa_cons (pv 2) pa_nil)))
      (pss_cons (ps_set (i := 6) sc_law.nd rfl (Or.inl rfl) (pe_callTy call_list_of (by rfl) T.n_list (by decide +kernel) (pa_cons (pv 3) pa_nil)))
      (pss_cons (ps_set (i := 7) sc_law.nd rfl (Or.inl rfl) (pe_call G_learnt hr_learnt rfl T.g_learnt T.F_learnt.kp T.b_learnt .nil pass0 (pa_cons (pv 5) (pa_cons (pv 6) (pa_cons (pv 4) pa_nil)))))
      (pss_cons (ps_if (PW.pt (pw_or (pt_not (pt_val (pe_call G_law_numbers_alike hr_law_numbers_alike rfl T.g_law_numbers_alike T.F_law_numbers_alike.kp T.b_law_numbers_alike .nil pass0 (pa_cons (pv 5) (pa_cons (pv 2) pa_nil))))) (pw_or1 (pt_not (pt_val (pe_call G_law_numbers_alike hr_law_numbers_alike rfl T.g_law_numbers_alike T.F_law_numbers_alike.kp T.b_law_numbers_alike .nil pass0 (pa_cons (pv 6) (pa_cons (pv 3) pa_nil)))))))) (pss_one (ps_ret pe_bl))
      pss_nil)
      (pss_one (ps_ret (pe_call G_law_numbers_alike hr_law_numbers_alike rfl T.g_law_numbers_alike T.F_law_numbers_alike.kp T.b_law_numbers_alike .nil pass0 (pa_cons (pv 7) (pa_cons (pe_call G_law_learnt_by hr_law_learnt_by rfl T.g_law_learnt_by T.F_law_learnt_by.kp T.b_law_learnt_by .nil pass0 (pa_cons (pv 2) (pa_cons (pv 3) (pa_cons (pv 4) pa_nil)))) pa_nil)))))))))))))), ?_⟩
  refine w_start (σ' := [some _, none, none, none, none, none, none, none, none]) rfl ?_
  try dsimp only [cxOf, Cx.nox, Cx.wish]
  have hm := manyBy_bounds (cellAt ns 0)
  have g0 : ∀ cap : Int, manyBy (cellAt ns 0) ≤ cap → cap ≤ 1000000 → GoodL (rowBy (manyBy (cellAt ns 0)) fun k => shareBy (cellAt ns (2 + 2 * (k : Int)))) (rowBy (manyBy (cellAt ns 0)) fun k => shareBy (cellAt ns (3 + 2 * (k : Int))) - 1) cap := fun cap h1 h2 => by
    have e := Int.toNat_of_nonneg (show 0 ≤ manyBy (cellAt ns 0) by omega)
    refine ⟨⟨by rw [rowBy_length]; omega, by rw [rowBy_length]; omega, fun n hn => ?_⟩, by rw [rowBy_length, rowBy_length], fun n hn => ?_, by rw [rowBy_length]; omega, h2⟩
    · obtain ⟨i, rfl, _⟩ := rowBy_mem hn
      exact shareBy_bounds _
    · obtain ⟨i, rfl, _⟩ := rowBy_mem hn
      have := shareBy_bounds (cellAt ns (3 + 2 * (i : Int)))
      unfold mostShare at this ⊢
      omega
  walk_at "ss"
  refine u_cell_at hS (by decide) ?_
  walk_at "ss"
  refine u_many_by ?_
  walk_at "ss"
  refine w_rng1 (by omega) (by omega) ?_
  refine lc_pure walk_range ((rowBy (manyBy (cellAt ns 0)) fun k => shareBy (cellAt ns (2 + 2 * (k : Int)))).map V.int) (by rw [List.length_map, rowBy_length]) (Nat.le_trans (show _ ≤ 40 by omega) (by decide)) (fun _ _ => trivial) (fun i x y H1 H2 R hi hy s1 hx k => ?_) (fun p1 H1 s1 hp1 h1 => ?_)
  · obtain ⟨rfl, rfl⟩ := hx
    obtain ⟨n, hn, rfl⟩ := map_int hy
    obtain ⟨rfl, _⟩ := rowBy_get hn
    walk_at "ss"
    refine ⟨rfl, ?_⟩
    walk_at "ss"
    refine u_cell_at (s1.seq hS) (by omega) ?_
    walk_at "ss"
    refine u_share_by ?_
    rw [Int.zero_add]
    exact k _ (Same.refl _)
  walk_at "ss"
  refine w_rng1 (by omega) (by omega) ?_
  refine lc_pure walk_range ((rowBy (manyBy (cellAt ns 0)) fun k => shareBy (cellAt ns (3 + 2 * (k : Int))) - 1).map V.int) (by rw [List.length_map, rowBy_length]) (Nat.le_trans (show _ ≤ 40 by omega) (by decide)) (fun _ _ => trivial) (fun i x y H3 H2 R hi hy s3 hx k => ?_) (fun p2 H2 s2 hp2 h2 => ?_)
  · obtain ⟨rfl, rfl⟩ := hx
    obtain ⟨n, hn, rfl⟩ := map_int hy
    obtain ⟨rfl, _⟩ := rowBy_get hn
    walk_at "ss"
    refine ⟨rfl, ?_⟩
    walk_at "ss"
    refine u_cell_at (s3.seq (s1.seq hS)) (by omega) ?_
    walk_at "ss"
    refine u_share_by ?_
    walk_at "ss"
    rw [Int.zero_add]
    exact k _ (Same.refl _)
  -- the cap
  have hS2 : SqL K H2 a (ns.map V.int) := s2.seq (s1.seq hS)
  walk_at "ss"
  refine u_cell_at hS2 (by decide) ?_
  walk_at "ss"
  refine w_cut (fun σ' H' => H' = H2 ∧ ∃ cap : Int, manyBy (cellAt ns 0) ≤ cap ∧ cap ≤ 1000000 ∧ σ' = [some (.ref a), some (.int (manyBy (cellAt ns 0))), some (.ref p1), some (.ref p2), some (.int cap), none, none, none, none]) ?_ ?_
  · walk_at "ss"
    refine u_cell_at hS2 (by decide) ?_
    walk_at "ss"
    refine w_iteI (fun h => ?_) (fun h => ?_)
    · walk_at "ss"
      refine u_cell_at hS2 (by decide) ?_
      walk_at "ss"
      have m1 := Int.emod_nonneg (cellAt ns 1 / 240) (show (1000001 - manyBy (cellAt ns 0)) ≠ 0 by omega)
      have m2 := Int.emod_lt_of_pos (cellAt ns 1 / 240) (show 0 < 1000001 - manyBy (cellAt ns 0) by omega)
      exact ⟨rfl, _, by omega, by omega, rfl⟩
    · walk_at "ss"
      exact ⟨rfl, _, by omega, by omega, rfl⟩
  · rintro σ' H' ⟨rfl, cap, hc1, hc2, rfl⟩
    have g := g0 cap hc1 hc2
    have h1' := s2 _ _ h1
    walk_at "ss"
    refine w_newB (fun p3 H3 s3 hp3 h3 => ?_)
    walk_at "ss"
    refine w_newB (fun p4 H4 s4 hp4 h4 => ?_)
    walk_at "ss"
    refine u_learnt (by walk_at "look") (by walk_at "look") g (fun p5 H5 s5 hp5 h5 => ?_)
    walk_at "ss"
    refine u_numbers_alike (by walk_at "look") (by walk_at "look") (fun H6 s6 => ?_)
    rw [decide_eq_true rfl]
    walk_at "ss"
    refine u_numbers_alike (by walk_at "look") (by walk_at "look") (fun H7 s7 => ?_)
    rw [decide_eq_true rfl]
    walk_at "ss"
    refine u_learnt_by (by walk_at "look") (by walk_at "look") (by rw [rowBy_length, rowBy_length]) g.sh.few (k01_tail g).1 (k01_tail g).2 g.lo (fun p8 H8 s8 hp8 h8 => ?_)
    walk_at "ss"
    refine u_numbers_alike (by walk_at "look") (by walk_at "look") (fun H9 s9 => ?_)
    rw [decide_eq_true rfl]
    exact q _
end
/-! ## The end -/
def sp_lawEnd (K : PySem.W.Frag) : L2.Sp := fun vs H Q _ => ∃ (a : Addr) (ns : List Int), vs = [.ref a] ∧ SqL K H a (ns.map V.int) ∧ ns.length ≤ 63 ∧ ∀ H', Q (.bl true) H'
theorem all_mk {l : PySem.W.OpenLaw} {w : World} {K : PySem.W.Frag} {h : Heap} {mg : Str → Option Value} {fa : Addr} (X : K.In h) (G : h.Ns mainGlobals mg) (hfa : mg "law" = some (.ref fa))
    {oc_whole : Value} {od_whole an_whole : Option Addr} {sl_whole : Array (Option Value)} {kV_whole dc_whole pm_whole cd_whole ct_whole : Value} {f_whole : Addr}
    (a_whole : PySem.W.nsIn K mainGlobals "whole" = some (some (.ref f_whole)))
    (l_whole : K.lookup f_whole = some ⟨oc_whole, od_whole, .func (PySem.W.fnOf "whole" "whole" (defArgs s_whole) (defBody s_whole) (defScope s_whole) .none kV_whole dc_whole pm_whole an_whole cd_whole ct_whole), sl_whole⟩) (c_whole : PySem.W.codeIn K cd_whole "whole" = true) (k_whole : PySem.W.keepIn K (.ref f_whole) = true)
    {oc_whole_row : Value} {od_whole_row an_whole_row : Option Addr} {sl_whole_row : Array (Option Value)} {kV_whole_row dc_whole_row pm_whole_row cd_whole_row ct_whole_row : Value} {f_whole_row : Addr}
    (a_whole_row : PySem.W.nsIn K mainGlobals "whole_row" = some (some (.ref f_whole_row)))
    (l_whole_row : K.lookup f_whole_row = some ⟨oc_whole_row, od_whole_row, .func (PySem.W.fnOf "whole_row" "whole_row" (defArgs s_whole_row) (defBody s_whole_row) (defScope s_whole_row) .none kV_whole_row dc_whole_row pm_whole_row an_whole_row cd_whole_row ct_whole_row), sl_whole_row⟩) (c_whole_row : PySem.W.codeIn K cd_whole_row "whole_row" = true) (k_whole_row : PySem.W.keepIn K (.ref f_whole_row) = true)
    {oc_need_shares : Value} {od_need_shares an_need_shares : Option Addr} {sl_need_shares : Array (Option Value)} {kV_need_shares dc_need_shares pm_need_shares cd_need_shares ct_need_shares : Value} {f_need_shares : Addr}
    (a_need_shares : PySem.W.nsIn K mainGlobals "need_shares" = some (some (.ref f_need_shares)))
    (l_need_shares : K.lookup f_need_shares = some ⟨oc_need_shares, od_need_shares, .func (PySem.W.fnOf "need_shares" "need_shares" (defArgs s_need_shares) (defBody s_need_shares) (defScope s_need_shares) .none kV_need_shares dc_need_shares pm_need_shares an_need_shares cd_need_shares ct_need_shares), sl_need_shares⟩) (c_need_shares : PySem.W.codeIn K cd_need_shares "need_shares" = true) (k_need_shares : PySem.W.keepIn K (.ref f_need_shares) = true)
    {oc_halved : Value} {od_halved an_halved : Option Addr} {sl_halved : Array (Option Value)} {kV_halved dc_halved pm_halved cd_halved ct_halved : Value} {f_halved : Addr}
    (a_halved : PySem.W.nsIn K mainGlobals "halved" = some (some (.ref f_halved)))
    (l_halved : K.lookup f_halved = some ⟨oc_halved, od_halved, .func (PySem.W.fnOf "halved" "halved" (defArgs s_halved) (defBody s_halved) (defScope s_halved) .none kV_halved dc_halved pm_halved an_halved cd_halved ct_halved), sl_halved⟩) (c_halved : PySem.W.codeIn K cd_halved "halved" = true) (k_halved : PySem.W.keepIn K (.ref f_halved) = true)
    {oc_learnt : Value} {od_learnt an_learnt : Option Addr} {sl_learnt : Array (Option Value)} {kV_learnt dc_learnt pm_learnt cd_learnt ct_learnt : Value} {f_learnt : Addr}
    (a_learnt : PySem.W.nsIn K mainGlobals "learnt" = some (some (.ref f_learnt)))
    (l_learnt : K.lookup f_learnt = some ⟨oc_learnt, od_learnt, .func (PySem.W.fnOf "learnt" "learnt" (defArgs s_learnt) (defBody s_learnt) (defScope s_learnt) .none kV_learnt dc_learnt pm_learnt an_learnt cd_learnt ct_learnt), sl_learnt⟩) (c_learnt : PySem.W.codeIn K cd_learnt "learnt" = true) (k_learnt : PySem.W.keepIn K (.ref f_learnt) = true)
    {oc_law_whole : Value} {od_law_whole an_law_whole : Option Addr} {sl_law_whole : Array (Option Value)} {kV_law_whole dc_law_whole pm_law_whole cd_law_whole ct_law_whole : Value} {f_law_whole : Addr}
    (a_law_whole : PySem.W.nsIn K mainGlobals "_law_whole" = some (some (.ref f_law_whole)))
    (l_law_whole : K.lookup f_law_whole = some ⟨oc_law_whole, od_law_whole, .func (PySem.W.fnOf "_law_whole" "_law_whole" (defArgs s_law_whole) (defBody s_law_whole) (defScope s_law_whole) .none kV_law_whole dc_law_whole pm_law_whole an_law_whole cd_law_whole ct_law_whole), sl_law_whole⟩) (c_law_whole : PySem.W.codeIn K cd_law_whole "_law_whole" = true) (k_law_whole : PySem.W.keepIn K (.ref f_law_whole) = true)
    {oc_law_cell_at : Value} {od_law_cell_at an_law_cell_at : Option Addr} {sl_law_cell_at : Array (Option Value)} {kV_law_cell_at dc_law_cell_at pm_law_cell_at cd_law_cell_at ct_law_cell_at : Value} {f_law_cell_at : Addr}
    (a_law_cell_at : PySem.W.nsIn K mainGlobals "_law_cell_at" = some (some (.ref f_law_cell_at)))
    (l_law_cell_at : K.lookup f_law_cell_at = some ⟨oc_law_cell_at, od_law_cell_at, .func (PySem.W.fnOf "_law_cell_at" "_law_cell_at" (defArgs s_law_cell_at) (defBody s_law_cell_at) (defScope s_law_cell_at) .none kV_law_cell_at dc_law_cell_at pm_law_cell_at an_law_cell_at cd_law_cell_at ct_law_cell_at), sl_law_cell_at⟩) (c_law_cell_at : PySem.W.codeIn K cd_law_cell_at "_law_cell_at" = true) (k_law_cell_at : PySem.W.keepIn K (.ref f_law_cell_at) = true)
    {oc_law_share_by : Value} {od_law_share_by an_law_share_by : Option Addr} {sl_law_share_by : Array (Option Value)} {kV_law_share_by dc_law_share_by pm_law_share_by cd_law_share_by ct_law_share_by : Value} {f_law_share_by : Addr}
    (a_law_share_by : PySem.W.nsIn K mainGlobals "_law_share_by" = some (some (.ref f_law_share_by)))
    (l_law_share_by : K.lookup f_law_share_by = some ⟨oc_law_share_by, od_law_share_by, .func (PySem.W.fnOf "_law_share_by" "_law_share_by" (defArgs s_law_share_by) (defBody s_law_share_by) (defScope s_law_share_by) .none kV_law_share_by dc_law_share_by pm_law_share_by an_law_share_by cd_law_share_by ct_law_share_by), sl_law_share_by⟩) (c_law_share_by : PySem.W.codeIn K cd_law_share_by "_law_share_by" = true) (k_law_share_by : PySem.W.keepIn K (.ref f_law_share_by) = true)
    {oc_law_many_by : Value} {od_law_many_by an_law_many_by : Option Addr} {sl_law_many_by : Array (Option Value)} {kV_law_many_by dc_law_many_by pm_law_many_by cd_law_many_by ct_law_many_by : Value} {f_law_many_by : Addr}
    (a_law_many_by : PySem.W.nsIn K mainGlobals "_law_many_by" = some (some (.ref f_law_many_by)))
    (l_law_many_by : K.lookup f_law_many_by = some ⟨oc_law_many_by, od_law_many_by, .func (PySem.W.fnOf "_law_many_by" "_law_many_by" (defArgs s_law_many_by) (defBody s_law_many_by) (defScope s_law_many_by) .none kV_law_many_by dc_law_many_by pm_law_many_by an_law_many_by cd_law_many_by ct_law_many_by), sl_law_many_by⟩) (c_law_many_by : PySem.W.codeIn K cd_law_many_by "_law_many_by" = true) (k_law_many_by : PySem.W.keepIn K (.ref f_law_many_by) = true)
    {oc_law_numbers_alike : Value} {od_law_numbers_alike an_law_numbers_alike : Option Addr} {sl_law_numbers_alike : Array (Option Value)} {kV_law_numbers_alike dc_law_numbers_alike pm_law_numbers_alike cd_law_numbers_alike ct_law_numbers_alike : Value} {f_law_numbers_alike : Addr}
    (a_law_numbers_alike : PySem.W.nsIn K mainGlobals "_law_numbers_alike" = some (some (.ref f_law_numbers_alike)))
    (l_law_numbers_alike : K.lookup f_law_numbers_alike = some ⟨oc_law_numbers_alike, od_law_numbers_alike, .func (PySem.W.fnOf "_law_numbers_alike" "_law_numbers_alike" (defArgs s_law_numbers_alike) (defBody s_law_numbers_alike) (defScope s_law_numbers_alike) .none kV_law_numbers_alike dc_law_numbers_alike pm_law_numbers_alike an_law_numbers_alike cd_law_numbers_alike ct_law_numbers_alike), sl_law_numbers_alike⟩) (c_law_numbers_alike : PySem.W.codeIn K cd_law_numbers_alike "_law_numbers_alike" = true) (k_law_numbers_alike : PySem.W.keepIn K (.ref f_law_numbers_alike) = true)
    {oc_law_learnt_by : Value} {od_law_learnt_by an_law_learnt_by : Option Addr} {sl_law_learnt_by : Array (Option Value)} {kV_law_learnt_by dc_law_learnt_by pm_law_learnt_by cd_law_learnt_by ct_law_learnt_by : Value} {f_law_learnt_by : Addr}
    (a_law_learnt_by : PySem.W.nsIn K mainGlobals "_law_learnt_by" = some (some (.ref f_law_learnt_by)))
    (l_law_learnt_by : K.lookup f_law_learnt_by = some ⟨oc_law_learnt_by, od_law_learnt_by, .func (PySem.W.fnOf "_law_learnt_by" "_law_learnt_by" (defArgs s_law_learnt_by) (defBody s_law_learnt_by) (defScope s_law_learnt_by) .none kV_law_learnt_by dc_law_learnt_by pm_law_learnt_by an_law_learnt_by cd_law_learnt_by ct_law_learnt_by), sl_law_learnt_by⟩) (c_law_learnt_by : PySem.W.codeIn K cd_law_learnt_by "_law_learnt_by" = true) (k_law_learnt_by : PySem.W.keepIn K (.ref f_law_learnt_by) = true)
    {oc_law : Value} {od_law an_law : Option Addr} {sl_law : Array (Option Value)} {kV_law dc_law pm_law cd_law ct_law : Value} {f_law : Addr}
    (a_law : PySem.W.nsIn K mainGlobals "law" = some (some (.ref f_law)))
    (l_law : K.lookup f_law = some ⟨oc_law, od_law, .func (PySem.W.fnOf "law" "law" (defArgs s_law) (defBody s_law) (defScope s_law) .none kV_law dc_law pm_law an_law cd_law ct_law), sl_law⟩) (c_law : PySem.W.codeIn K cd_law "law" = true) (k_law : PySem.W.keepIn K (.ref f_law) = true)
    (n_bool : PySem.W.nsIn K mainGlobals "bool" = some none)
    (n_int : PySem.W.nsIn K mainGlobals "int" = some none)
    (n_isinstance : PySem.W.nsIn K mainGlobals "isinstance" = some none)
    (n_len : PySem.W.nsIn K mainGlobals "len" = some none)
    (n_list : PySem.W.nsIn K mainGlobals "list" = some none)
    (n_range : PySem.W.nsIn K mainGlobals "range" = some none)
    (n_sum : PySem.W.nsIn K mainGlobals "sum" = some none)
    (n_zip : PySem.W.nsIn K mainGlobals "zip" = some none)
    {t_MOST_CAP : Tok} (c_MOST_CAP : PySem.W.nsIn K mainGlobals "MOST_CAP" = some (some (.int 1000000 t_MOST_CAP)))
    {t_MOST_SHARE : Tok} (c_MOST_SHARE : PySem.W.nsIn K mainGlobals "MOST_SHARE" = some (some (.int 1000000000000 t_MOST_SHARE)))
    {t_MOST_SIGNS : Tok} (c_MOST_SIGNS : PySem.W.nsIn K mainGlobals "MOST_SIGNS" = some (some (.int 40 t_MOST_SIGNS))) :
    ∃ fd : FuncData, (∀ (s : Shared) (v : Value), BindsTo s fd ⟨[v], []⟩ [("_law_script", v)]) ∧ ∀ base : Heap, K.In base → base.Ns mainGlobals mg → FnOk l.prog w K mg base CX0 5 fa fd ["_law_script"] (sp_law K) := by
  have e := hfa.symm.trans (PySem.W.mg_of X G a_law)
  cases e
  have F_whole := fun_mk (st := s_whole) l_whole c_whole k_whole
  have b_whole := F_whole.binds (ps := ["found", "least", "most"]) fun _ _ _ _ _ _ us hl => match us, hl with | [_, _, _], _ => rfl
  have F_whole_row := fun_mk (st := s_whole_row) l_whole_row c_whole_row k_whole_row
  have b_whole_row := F_whole_row.binds (ps := ["row", "least"]) fun _ _ _ _ _ _ us hl => match us, hl with | [_, _], _ => rfl
  have F_need_shares := fun_mk (st := s_need_shares) l_need_shares c_need_shares k_need_shares
  have b_need_shares := F_need_shares.binds (ps := ["shares"]) fun _ _ _ _ _ _ us hl => match us, hl with | [_], _ => rfl
  have F_halved := fun_mk (st := s_halved) l_halved c_halved k_halved
  have b_halved := F_halved.binds (ps := ["shares"]) fun _ _ _ _ _ _ us hl => match us, hl with | [_], _ => rfl
  have F_learnt := fun_mk (st := s_learnt) l_learnt c_learnt k_learnt
  have b_learnt := F_learnt.binds (ps := ["shares", "counts", "cap"]) fun _ _ _ _ _ _ us hl => match us, hl with | [_, _, _], _ => rfl
  have F_law_whole := fun_mk (st := s_law_whole) l_law_whole c_law_whole k_law_whole
  have b_law_whole := F_law_whole.binds (ps := ["_law_found"]) fun _ _ _ _ _ _ us hl => match us, hl with | [_], _ => rfl
  have F_law_cell_at := fun_mk (st := s_law_cell_at) l_law_cell_at c_law_cell_at k_law_cell_at
  have b_law_cell_at := F_law_cell_at.binds (ps := ["_law_script", "_law_k"]) fun _ _ _ _ _ _ us hl => match us, hl with | [_, _], _ => rfl
  have F_law_share_by := fun_mk (st := s_law_share_by) l_law_share_by c_law_share_by k_law_share_by
  have b_law_share_by := F_law_share_by.binds (ps := ["_law_cell"]) fun _ _ _ _ _ _ us hl => match us, hl with | [_], _ => rfl
  have F_law_many_by := fun_mk (st := s_law_many_by) l_law_many_by c_law_many_by k_law_many_by
  have b_law_many_by := F_law_many_by.binds (ps := ["_law_cell"]) fun _ _ _ _ _ _ us hl => match us, hl with | [_], _ => rfl
  have F_law_numbers_alike := fun_mk (st := s_law_numbers_alike) l_law_numbers_alike c_law_numbers_alike k_law_numbers_alike
  have b_law_numbers_alike := F_law_numbers_alike.binds (ps := ["_law_found", "_law_due"]) fun _ _ _ _ _ _ us hl => match us, hl with | [_, _], _ => rfl
  have F_law_learnt_by := fun_mk (st := s_law_learnt_by) l_law_learnt_by c_law_learnt_by k_law_learnt_by
  have b_law_learnt_by := F_law_learnt_by.binds (ps := ["_law_shares", "_law_counts", "_law_cap"]) fun _ _ _ _ _ _ us hl => match us, hl with | [_, _, _], _ => rfl
  have F_law := fun_mk (st := s_law) l_law c_law k_law
  have b_law := F_law.binds (ps := ["_law_script"]) fun _ _ _ _ _ _ us hl => match us, hl with | [_], _ => rfl
  let A : Adr := { f_whole := f_whole, d_whole := (PySem.W.fnOf "whole" "whole" (defArgs s_whole) (defBody s_whole) (defScope s_whole) .none kV_whole dc_whole pm_whole an_whole cd_whole ct_whole), f_whole_row := f_whole_row, d_whole_row := (PySem.W.fnOf "whole_row" "whole_row" (defArgs s_whole_row) (defBody s_whole_row) (defScope s_whole_row) .none kV_whole_row dc_whole_row pm_whole_row an_whole_row cd_whole_row ct_whole_row), f_need_shares := f_need_shares, d_need_shares := (PySem.W.fnOf "need_shares" "need_shares" (defArgs s_need_shares) (defBody s_need_shares) (defScope s_need_shares) .none kV_need_shares dc_need_shares pm_need_shares an_need_shares cd_need_shares ct_need_shares), f_halved := f_halved, d_halved := (PySem.W.fnOf "halved" "halved" (defArgs s_halved) (defBody s_halved) (defScope s_halved) .none kV_halved dc_halved pm_halved an_halved cd_halved ct_halved), f_learnt := f_learnt, d_learnt := (PySem.W.fnOf "learnt" "learnt" (defArgs s_learnt) (defBody s_learnt) (defScope s_learnt) .none kV_learnt dc_learnt pm_learnt an_learnt cd_learnt ct_learnt), f_law_whole := f_law_whole, d_law_whole := (PySem.W.fnOf "_law_whole" "_law_whole" (defArgs s_law_whole) (defBody s_law_whole) (defScope s_law_whole) .none kV_law_whole dc_law_whole pm_law_whole an_law_whole cd_law_whole ct_law_whole), f_law_cell_at := f_law_cell_at, d_law_cell_at := (PySem.W.fnOf "_law_cell_at" "_law_cell_at" (defArgs s_law_cell_at) (defBody s_law_cell_at) (defScope s_law_cell_at) .none kV_law_cell_at dc_law_cell_at pm_law_cell_at an_law_cell_at cd_law_cell_at ct_law_cell_at), f_law_share_by := f_law_share_by, d_law_share_by := (PySem.W.fnOf "_law_share_by" "_law_share_by" (defArgs s_law_share_by) (defBody s_law_share_by) (defScope s_law_share_by) .none kV_law_share_by dc_law_share_by pm_law_share_by an_law_share_by cd_law_share_by ct_law_share_by), f_law_many_by := f_law_many_by, d_law_many_by := (PySem.W.fnOf "_law_many_by" "_law_many_by" (defArgs s_law_many_by) (defBody s_law_many_by) (defScope s_law_many_by) .none kV_law_many_by dc_law_many_by pm_law_many_by an_law_many_by cd_law_many_by ct_law_many_by), f_law_numbers_alike := f_law_numbers_alike, d_law_numbers_alike := (PySem.W.fnOf "_law_numbers_alike" "_law_numbers_alike" (defArgs s_law_numbers_alike) (defBody s_law_numbers_alike) (defScope s_law_numbers_alike) .none kV_law_numbers_alike dc_law_numbers_alike pm_law_numbers_alike an_law_numbers_alike cd_law_numbers_alike ct_law_numbers_alike), f_law_learnt_by := f_law_learnt_by, d_law_learnt_by := (PySem.W.fnOf "_law_learnt_by" "_law_learnt_by" (defArgs s_law_learnt_by) (defBody s_law_learnt_by) (defScope s_law_learnt_by) .none kV_law_learnt_by dc_law_learnt_by pm_law_learnt_by an_law_learnt_by cd_law_learnt_by ct_law_learnt_by), f_law := fa, d_law := (PySem.W.fnOf "law" "law" (defArgs s_law) (defBody s_law) (defScope s_law) .none kV_law dc_law pm_law an_law cd_law ct_law), t_MOST_CAP := t_MOST_CAP, t_MOST_SHARE := t_MOST_SHARE, t_MOST_SIGNS := t_MOST_SIGNS }
  have T : Txt K mg A := { F_whole := F_whole, b_whole := b_whole, g_whole := PySem.W.mg_of X G a_whole, F_whole_row := F_whole_row, b_whole_row := b_whole_row, g_whole_row := PySem.W.mg_of X G a_whole_row, F_need_shares := F_need_shares, b_need_shares := b_need_shares, g_need_shares := PySem.W.mg_of X G a_need_shares, F_halved := F_halved, b_halved := b_halved, g_halved := PySem.W.mg_of X G a_halved, F_learnt := F_learnt, b_learnt := b_learnt, g_learnt := PySem.W.mg_of X G a_learnt, F_law_whole := F_law_whole, b_law_whole := b_law_whole, g_law_whole := PySem.W.mg_of X G a_law_whole, F_law_cell_at := F_law_cell_at, b_law_cell_at := b_law_cell_at, g_law_cell_at := PySem.W.mg_of X G a_law_cell_at, F_law_share_by := F_law_share_by, b_law_share_by := b_law_share_by, g_law_share_by := PySem.W.mg_of X G a_law_share_by, F_law_many_by := F_law_many_by, b_law_many_by := b_law_many_by, g_law_many_by := PySem.W.mg_of X G a_law_many_by, F_law_numbers_alike := F_law_numbers_alike, b_law_numbers_alike := b_law_numbers_alike, g_law_numbers_alike := PySem.W.mg_of X G a_law_numbers_alike, F_law_learnt_by := F_law_learnt_by, b_law_learnt_by := b_law_learnt_by, g_law_learnt_by := PySem.W.mg_of X G a_law_learnt_by, F_law := F_law, b_law := b_law, g_law := PySem.W.mg_of X G a_law, n_bool := PySem.W.mg_none_of X G n_bool, n_int := PySem.W.mg_none_of X G n_int, n_isinstance := PySem.W.mg_none_of X G n_isinstance, n_len := PySem.W.mg_none_of X G n_len, n_list := PySem.W.mg_none_of X G n_list, n_range := PySem.W.mg_none_of X G n_range, n_sum := PySem.W.mg_none_of X G n_sum, n_zip := PySem.W.mg_none_of X G n_zip, c_MOST_CAP := PySem.W.mg_of X G c_MOST_CAP, c_MOST_SHARE := PySem.W.mg_of X G c_MOST_SHARE, c_MOST_SIGNS := PySem.W.mg_of X G c_MOST_SIGNS }
  exact ⟨(PySem.W.fnOf "law" "law" (defArgs s_law) (defBody s_law) (defScope s_law) .none kV_law dc_law pm_law an_law cd_law ct_law), fun s v => .of_eq rfl, fun base _ _ => ok_law T⟩
theorem walk {l : PySem.W.OpenLaw} {q : Program} {loose : List Str} {XP : (Str → Option Value) → Heap → Prop} {YP : World → Heap → Prop} {d : DefRec} {K : Params → PySem.W.Frag} (hn : l.most = some 63) (hdf : d.params.defaults = [])
    (hY : ∀ (w : World) (h : Heap), YP w h → (K w.params).In h)
    (F : ∀ (w : World) (mg : Str → Option Value) (fa : Addr) (h : Heap), (K w.params).In h → h.Ns mainGlobals mg → mg d.name = some (.ref fa) →
      ∃ fd : FuncData, (∀ (s : Shared) (u : Value), BindsTo s fd ⟨[u], []⟩ [("_law_script", u)]) ∧ ∀ base : Heap, (K w.params).In base → base.Ns mainGlobals mg → FnOk l.prog w (K w.params) mg base CX0 5 fa fd ["_law_script"] (sp_law (K w.params))) :
    PySem.W.WalkO q loose XP YP l.row.toRowW d [] (fun f vs => PySem.call f vs) :=
  L2.walk_of (n := 63) (k := 5) (x := "_law_script") (CX := fun _ => CX0) (sp := fun w => sp_law (K w.params)) hn (by decide) hdf ⟨rfl, by decide, by decide⟩ hY F (fun _ _ a ns hl _ hS => ⟨a, ns, rfl, hS, hl, fun _ => rfl⟩) fun _ _ _ _ _ z => z
end Sp
open PySem PySem.W PyProof.Rows in
set_option maxRecDepth 100000 in
set_option maxHeartbeats 0 in
theorem PySem.Challenge.cw_sharepack_k01_a_block_learnt_holds : PySem.Challenge.rw_sharepack_k01_a_block_learnt.Holds := by
  w_on; o_law; k_head; (case hw => w_witness2)
  k_fill
  refine Sp.walk (l := PySem.Challenge.rw_sharepack_k01_a_block_learnt) rfl rfl (fun w h Y => PySem.W.kIn_of Y) ?F
  case F =>
    intro w mg fa h KX G hmg
    refine' Sp.all_mk KX G hmg ?a_whole ?l_whole ?c_whole ?k_whole ?a_whole_row ?l_whole_row ?c_whole_row ?k_whole_row ?a_need_shares ?l_need_shares ?c_need_shares ?k_need_shares ?a_halved ?l_halved ?c_halved ?k_halved ?a_learnt ?l_learnt ?c_learnt ?k_learnt ?a_law_whole ?l_law_whole ?c_law_whole ?k_law_whole ?a_law_cell_at ?l_law_cell_at ?c_law_cell_at ?k_law_cell_at ?a_law_share_by ?l_law_share_by ?c_law_share_by ?k_law_share_by ?a_law_many_by ?l_law_many_by ?c_law_many_by ?k_law_many_by ?a_law_numbers_alike ?l_law_numbers_alike ?c_law_numbers_alike ?k_law_numbers_alike ?a_law_learnt_by ?l_law_learnt_by ?c_law_learnt_by ?k_law_learnt_by ?a_law ?l_law ?c_law ?k_law ?n_bool ?n_int ?n_isinstance ?n_len ?n_list ?n_range ?n_sum ?n_zip ?c_MOST_CAP ?c_MOST_SHARE ?c_MOST_SIGNS
    (case a_whole => k_is)
    (case l_whole => k_is)
    (case c_whole => k_is)
    (case k_whole => k_is)
    (case a_whole_row => k_is)
    (case l_whole_row => k_is)
    (case c_whole_row => k_is)
    (case k_whole_row => k_is)
    (case a_need_shares => k_is)
    (case l_need_shares => k_is)
    (case c_need_shares => k_is)
    (case k_need_shares => k_is)
    (case a_halved => k_is)
    (case l_halved => k_is)
    (case c_halved => k_is)
    (case k_halved => k_is)
    (case a_learnt => k_is)
    (case l_learnt => k_is)
    (case c_learnt => k_is)
    (case k_learnt => k_is)
    (case a_law_whole => k_is)
    (case l_law_whole => k_is)
    (case c_law_whole => k_is)
    (case k_law_whole => k_is)
    (case a_law_cell_at => k_is)
    (case l_law_cell_at => k_is)
    (case c_law_cell_at => k_is)
    (case k_law_cell_at => k_is)
    (case a_law_share_by => k_is)
    (case l_law_share_by => k_is)
    (case c_law_share_by => k_is)
    (case k_law_share_by => k_is)
    (case a_law_many_by => k_is)
    (case l_law_many_by => k_is)
    (case c_law_many_by => k_is)
    (case k_law_many_by => k_is)
    (case a_law_numbers_alike => k_is)
    (case l_law_numbers_alike => k_is)
    (case c_law_numbers_alike => k_is)
    (case k_law_numbers_alike => k_is)
    (case a_law_learnt_by => k_is)
    (case l_law_learnt_by => k_is)
    (case c_law_learnt_by => k_is)
    (case k_law_learnt_by => k_is)
    (case a_law => k_is)
    (case l_law => k_is)
    (case c_law => k_is)
    (case k_law => k_is)
    (case n_bool => k_is)
    (case n_int => k_is)
    (case n_isinstance => k_is)
    (case n_len => k_is)
    (case n_list => k_is)
    (case n_range => k_is)
    (case n_sum => k_is)
    (case n_zip => k_is)
    (case c_MOST_CAP => k_is)
    (case c_MOST_SHARE => k_is)
    (case c_MOST_SIGNS => k_is)
#print axioms PySem.Challenge.cw_sharepack_k01_a_block_learnt_holds

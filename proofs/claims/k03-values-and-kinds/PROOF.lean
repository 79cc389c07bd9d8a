import PyProof.Rows.All
import Wide.All
import OpenK.AllK
import Wide.FinOn
import HandS.ForMost
import HandS.Wide
import HandS.IsInst
import HandS.EndBits
import HandS.Style
import HandS.Codes
import HandS.Conv
import HandS.Zip
import HandS.TupAny
import HandS.LawCells
import HandS.Steps
import HandS.Defaults
import KE.GoesMore
import KE.GoesEnum
import HandS.More
import KE.KDictZip
import HandS.ExcSuper
import HandS.ForExc
import KE.KExcSuper
import KE.RegKSuper
import HandS.TryMany
import HandS.EndTab
import HandS.TupMul
import PySem.Challenge.RW_backagain_k03_whole_values_and_kinds
set_option Elab.async false
set_option linter.all false
set_option maxRecDepth 100000
set_option maxHeartbeats 4000000
namespace BkG
open PySem PySem.Spec PyProof.Rows L2

/-! ### heaps: all that stood stands; all but what is in M -/
abbrev Ex (H H' : Hp) : Prop := Same H H'
def Kp (M : List Addr) (H H' : Hp) : Prop := ∀ a o, H a = some o → a ∉ M → H' a = some o
theorem Ex.new {H : Hp} {p : Addr} {o : HO} (h : H p = none) : Ex H (upd H p o) := fun a u e => by
  rw [upd_ne (ne_of_none e h)]; exact e
theorem Kp.refl (M : List Addr) (H : Hp) : Kp M H H := fun _ _ h _ => h
theorem Kp.of {M : List Addr} {H H' : Hp} (e : Ex H H') : Kp M H H' := fun a o h _ => e a o h
theorem Kp.trans {M : List Addr} {H H1 H2 : Hp} (a : Kp M H H1) (b : Kp M H1 H2) : Kp M H H2 := fun x o h n => b x o (a x o h n) n
theorem Kp.ex {M : List Addr} {H H1 H2 : Hp} (a : Kp M H H1) (b : Ex H1 H2) : Kp M H H2 := fun x o h n => b x o (a x o h n)
theorem Kp.pre {M : List Addr} {H H1 H2 : Hp} (a : Ex H H1) (b : Kp M H1 H2) : Kp M H H2 := fun x o h n => b x o (a x o h) n
/-- a change at a place that H does not know -/
theorem Kp.mut {M : List Addr} {H H1 H2 : Hp} {D : Addr} (a : Kp M H H1) (hD : H D = none) (b : ∀ x o, x ≠ D → H1 x = some o → H2 x = some o) : Kp M H H2 := fun x o h n => b x o (ne_of_none h hD) (a x o h n)
theorem Ex.mut {H H1 H2 : Hp} {D : Addr} (a : Ex H H1) (hD : H D = none) (b : ∀ x o, x ≠ D → H1 x = some o → H2 x = some o) : Ex H H2 := fun x o h => b x o (ne_of_none h hD) (a x o h)
theorem Kp.nil {H H' : Hp} (k : Kp [] H H') : Ex H H' := fun a o h => k a o h (by simp)
theorem Ex.kp {H H' : Hp} (k : Ex H H') : Kp [] H H' := Kp.of k
theorem Ex.fresh {H H' : Hp} (e : Ex H H') {l : Addr} (h : H' l = none) : H l = none := Same.free e h
theorem Ex.sqL {K : PySem.W.Frag} {H H' : Hp} {a : Addr} {xs : List V} (e : Ex H H') (h : SqL K H a xs) : SqL K H' a xs := Same.seq e h
theorem Ex.sqT {K : PySem.W.Frag} {H H' : Hp} {a : Addr} {xs : List V} (e : Ex H H') (h : SqT K H a xs) : SqT K H' a xs := by
  rcases h with (h | ⟨o, h⟩) | h
  · exact .inl (.inl (e _ _ h))
  · exact .inl (.inr ⟨o, e _ _ h⟩)
  · exact .inr h

/-! ### data -/
/-- d stands at v; its lists are none of those that change -/
inductive Dv (M : List Addr) (H : Hp) : V → PyData → Prop
  | non : Dv M H .non .none
  | bl (b : Bool) : Dv M H (.bl b) (.bool b)
  | int (i : Int) : Dv M H (.int i) (.int i)
  | str (x : Str) : Dv M H (.str x) (.str x)
  | lst {a : Addr} {xs : List V} {ds : List PyData} (h : H a = some (.lst xs)) (n : a ∉ M) (l : xs.length = ds.length) (t : ∀ (i : Nat) (v : V) (d : PyData), xs[i]? = some v → ds[i]? = some d → Dv M H v d) : Dv M H (.ref a) (.list ds)
  | tup {a : Addr} {xs : List V} {ds : List PyData} (h : H a = some (.tup xs)) (l : xs.length = ds.length) (t : ∀ (i : Nat) (v : V) (d : PyData), xs[i]? = some v → ds[i]? = some d → Dv M H v d) : Dv M H (.ref a) (.tuple ds)
/-- tuples of H stay, lists but those of M stay -/
def Kd (M : List Addr) (H H' : Hp) : Prop := (∀ a xs, H a = some (.tup xs) → H' a = some (.tup xs)) ∧ ∀ a xs, H a = some (.lst xs) → a ∉ M → H' a = some (.lst xs)
theorem Kd.of_ex {M : List Addr} {H H' : Hp} (e : Ex H H') : Kd M H H' := ⟨fun a xs h => e a _ h, fun a xs h _ => e a _ h⟩
theorem Dv.keep {M : List Addr} {H H' : Hp} (k : Kd M H H') {v : V} {d : PyData} (h : Dv M H v d) : Dv M H' v d := by
  induction h with
  | non => exact .non
  | bl b => exact .bl b
  | int i => exact .int i
  | str x => exact .str x
  | lst h n l t ih => exact .lst (k.2 _ _ h n) n l ih
  | tup h l t ih => exact .tup (k.1 _ _ h) l ih
theorem Dv.ex {M : List Addr} {H H' : Hp} (e : Ex H H') {v : V} {d : PyData} (h : Dv M H v d) : Dv M H' v d := h.keep (Kd.of_ex e)
theorem Dv.weak {M M' : List Addr} {H : Hp} {v : V} {d : PyData} (h : Dv M H v d) (s : ∀ a, a ∈ M' → a ∈ M) : Dv M' H v d := by
  induction h with
  | non => exact .non
  | bl b => exact .bl b
  | int i => exact .int i
  | str x => exact .str x
  | lst h n l t ih => exact .lst h (fun z => n (s _ z)) l ih
  | tup h l t ih => exact .tup h l ih
theorem dpAll_of {K : PySem.W.Frag} {H : Hp} : ∀ {xs : List V} {ds : List PyData}, xs.length = ds.length → (∀ (i : Nat) (v : V) (d : PyData), xs[i]? = some v → ds[i]? = some d → Dp K H v d) → DpAll K H xs ds
  | [], [], _, _ => .nil
  | [], _ :: _, h, _ => by simp at h
  | _ :: _, [], h, _ => by simp at h
  | x :: xs, d :: ds, h, t => .cons (t 0 x d rfl rfl) (dpAll_of (by simpa using h) fun i v d h1 h2 => t (i + 1) v d (by simpa using h1) (by simpa using h2))
theorem Dv.dp {K : PySem.W.Frag} {M : List Addr} {H : Hp} {v : V} {d : PyData} (h : Dv M H v d) : Dp K H v d := by
  induction h with
  | non => exact .non
  | bl b => exact .bl b
  | int i => exact .int i
  | str x => exact .str x
  | lst h n l t ih => exact .lst (.of h) (dpAll_of l ih)
  | tup h l t ih => exact .tup (.of h) (dpAll_of l ih)
end BkG
namespace BkG
open PySem PySem.Spec L2
/-! ### readings, one step a lemma -/
section
variable {K : PySem.W.Frag} {σ : St} {H : Hp} {Q : VK} {QB : Bool → Hp → Prop} {QA : List V → Hp → Prop} {i : Nat} {v x y : V} {ta tb tc te : TE} {t u : TT} {a tr : TA} {r r' : R2} {b : Bool}
theorem w_var (h : σ[i]? = some (some v)) (q : Q v H) : tVar i σ H Q := ⟨v, h, q⟩
theorem w_c (q : Q v H) : tC v σ H Q := q
theorem w_op (h : ta σ H fun x H1 => tb σ H1 fun y H2 => r x y H2 Q) : tOp r ta tb σ H Q := h
theorem w_un {r : V → Hp → VK → Prop} (h : ta σ H fun x H1 => r x H1 Q) : tUn r ta σ H Q := h
theorem w_nil (q : QA [] H) : tNil σ H QA := q
theorem w_cons (h : ta σ H fun x H1 => tr σ H1 fun xs H2 => QA (x :: xs) H2) : tCons ta tr σ H QA := h
theorem w_cb {r : List V → Hp → VK → Prop} (h : a σ H fun vs H1 => r vs H1 Q) : tCB r a σ H Q := h
theorem w_call {sp : Sp} {dvs : List V} {E : XK} (h : a σ H fun vs H1 => sp (vs ++ dvs) H1 Q E) : tCall sp dvs E a σ H Q := h
theorem w_bm {T : String} {r : V → List V → Hp → VK → Prop} (h : te σ H fun x H1 => tyV K T x H1 ∧ a σ H1 fun xs H2 => r x xs H2 Q) : tBM K T r te a σ H Q := h
theorem w_bm0 {T : String} {r : V → List V → Hp → VK → Prop} (h : te σ H fun x H1 => tyV K T x H1 ∧ r x [] H1 Q) : tBM0 K T r te σ H Q := h
/-- a new tuple, a new list -/
def aTup (Q : VK) : List V → Hp → Prop := fun xs H1 => xs.length ≤ sizeLine ∧ ∀ p, H1 p = none → Q (.ref p) (upd H1 p (.tup xs))
def aLst (Q : VK) : List V → Hp → Prop := fun xs H1 => xs.length ≤ sizeLine ∧ ∀ p, H1 p = none → Q (.ref p) (upd H1 p (.lst xs))
theorem w_tup (h : a σ H (aTup Q)) : tTup a σ H Q := h
theorem w_lst (h : a σ H (aLst Q)) : tLst a σ H Q := h
theorem sz_of {n : Nat} (h : n ≤ 100000) : n ≤ sizeLine := Nat.le_trans h (by decide)
theorem sz_lt {n : Nat} (h : n < 100000) : n < sizeLine := Nat.lt_of_lt_of_le h (by decide)
theorem a_tup {vs : List V} (hl : vs.length ≤ 100000) (q : ∀ p H2, H p = none → Ex H H2 → H2 p = some (.tup vs) → Q (.ref p) H2) : aTup Q vs H := ⟨sz_of hl, fun p hp => q p _ hp (Ex.new hp) upd_same⟩
theorem a_lst {vs : List V} (hl : vs.length ≤ 100000) (q : ∀ p H2, H p = none → Ex H H2 → H2 p = some (.lst vs) → Q (.ref p) H2) : aLst Q vs H := ⟨sz_of hl, fun p hp => q p _ hp (Ex.new hp) upd_same⟩
/-! operators by values -/
theorem r_I0 {g : Int → Int → V} {i j : Int} (q : Q (g i j) H) : rI0 g (.int i) (.int j) H Q := ⟨i, j, rfl, rfl, q⟩
theorem r_I {C : Int → Int → Prop} {g : Int → Int → V} {i j : Int} (hc : C i j) (q : Q (g i j) H) : rI C g (.int i) (.int j) H Q := ⟨i, j, rfl, rfl, hc, q⟩
theorem r_U {g : Int → V} {i : Int} (q : Q (g i) H) : rU g (.int i) H Q := ⟨i, rfl, q⟩
theorem r_eqI {i j : Int} (q : Q (.bl (decide (i = j))) H) : rEq (.int i) (.int j) H Q := ⟨rfl, by rw [show decide (V.int i = V.int j) = decide (i = j) by by_cases h : i = j <;> simp [h]]; exact q⟩
theorem r_neI {i j : Int} (q : Q (.bl (!decide (i = j))) H) : rNe (.int i) (.int j) H Q := ⟨rfl, by rw [show decide (V.int i = V.int j) = decide (i = j) by by_cases h : i = j <;> simp [h]]; exact q⟩
theorem r_eqS {i j : Str} (q : Q (.bl (decide (i = j))) H) : rEq (.str i) (.str j) H Q := ⟨rfl, by rw [show decide (V.str i = V.str j) = decide (i = j) by by_cases h : i = j <;> simp [h]]; exact q⟩
theorem r_neS {i j : Str} (q : Q (.bl (!decide (i = j))) H) : rNe (.str i) (.str j) H Q := ⟨rfl, by rw [show decide (V.str i = V.str j) = decide (i = j) by by_cases h : i = j <;> simp [h]]; exact q⟩
theorem r_eqB {i j : Bool} (q : Q (.bl (decide (i = j))) H) : rEq (.bl i) (.bl j) H Q := ⟨rfl, by rw [show decide (V.bl i = V.bl j) = decide (i = j) by by_cases h : i = j <;> simp [h]]; exact q⟩
theorem r_neB {i j : Bool} (q : Q (.bl (!decide (i = j))) H) : rNe (.bl i) (.bl j) H Q := ⟨rfl, by rw [show decide (V.bl i = V.bl j) = decide (i = j) by by_cases h : i = j <;> simp [h]]; exact q⟩
theorem r_ixL {p : Addr} {xs : List V} {i : Int} (h : SqL K H p xs) (e : atI xs i = some v) (q : Q v H) : rIxL K (.ref p) (.int i) H Q := ⟨p, xs, i, v, rfl, rfl, h, e, q⟩
theorem r_ixT {p : Addr} {xs : List V} {i : Int} (h : SqT K H p xs) (e : atI xs i = some v) (q : Q v H) : rIxT K (.ref p) (.int i) H Q := ⟨p, xs, i, v, rfl, rfl, h, e, q⟩
theorem r_setL {p : Addr} {xs : List V} {k : Int} {j : Nat} {QH : Hp → Prop} (h : H p = some (.lst xs)) (e : ixN xs.length k = some j) (q : ∀ H2, Kp [p] H H2 → H2 p = some (.lst (xs.set j v)) → QH H2) : rSetL (.ref p) (.int k) v H QH :=
  ⟨p, xs, k, j, rfl, rfl, h, e, q _ (fun a o ha n => by rw [upd_ne (by simpa using n)]; exact ha) upd_same⟩
theorem r_append {p : Addr} {xs : List V} (h : H p = some (.lst xs)) (hz : xs.length < 100000) (q : ∀ H2, Kp [p] H H2 → H2 p = some (.lst (xs ++ [v])) → Q .non H2) : rAppend (.ref p) [v] H Q :=
  ⟨p, xs, v, rfl, rfl, h, sz_lt hz, q _ (fun a o ha n => by rw [upd_ne (by simpa using n)]; exact ha) upd_same⟩
theorem r_pop {p : Addr} {xs : List V} {y : V} (h : H p = some (.lst xs)) (e : xs[xs.length - 1]? = some y) (q : ∀ H2, Kp [p] H H2 → H2 p = some (.lst xs.dropLast) → Q y H2) : rPop (.ref p) [] H Q :=
  ⟨p, xs, y, rfl, rfl, h, e, q _ (fun a o ha n => by rw [upd_ne (by simpa using n)]; exact ha) upd_same⟩
theorem ty_list {p : Addr} {xs : List V} (h : H p = some (.lst xs)) : tyV K "list" (.ref p) H := .inl ⟨rfl, _, .inl (.inl h)⟩
theorem r_len {p : Addr} {xs : List V} {n : Nat} (h : SqL K H p xs ∨ SqT K H p xs) (e : xs.length = n) (q : Q (.int n) H) : rLen K [.ref p] H Q := by
  subst e
  rcases h with h | h
  · exact ⟨_, _, rfl, .inl ⟨xs, h, rfl⟩, q⟩
  · exact ⟨_, _, rfl, .inr ⟨xs, h, rfl⟩, q⟩
theorem r_lenS {z : Str} (h : z.length ≤ sizeLine) (q : Q (.int z.length) H) : rLen K [.str z] H Q := ⟨_, _, rfl, ⟨h, rfl⟩, q⟩
theorem r_eqD {d e : PyData} (h1 : Dp K H x d) (h2 : Dp K H y e) (s1 : SeqAt.shaped d = true) (s2 : SeqAt.shaped e = true) (q : Q (.bl (PyData.eqv d e)) H) : rEqD K x y H Q := ⟨d, e, h1, h2, s1, s2, q⟩
theorem r_neD {d e : PyData} (h1 : Dp K H x d) (h2 : Dp K H y e) (s1 : SeqAt.shaped d = true) (s2 : SeqAt.shaped e = true) (q : Q (.bl (!PyData.eqv d e)) H) : rNeD K x y H Q := ⟨d, e, h1, h2, s1, s2, q⟩
theorem r_cat {p q' : Addr} {xs zs : List V} (h : H p = some (.lst xs)) (h' : H q' = some (.lst zs)) (hz : xs.length + zs.length ≤ 100000) (q : ∀ l H2, H l = none → Ex H H2 → H2 l = some (.lst (xs ++ zs)) → Q (.ref l) H2) : rCat (.ref p) (.ref q') H Q :=
  ⟨p, q', xs, zs, rfl, rfl, h, h', sz_of hz, fun l hl => q l _ hl (Ex.new hl) upd_same⟩
theorem r_slL {p : Addr} {xs : List V} {lo hi : Option Int} (h : SqL K H p xs) (q : ∀ l H2, H l = none → Ex H H2 → H2 l = some (.lst (cutV xs lo hi)) → Q (.ref l) H2) : rSlL K (.ref p) lo hi H Q :=
  ⟨p, xs, rfl, h, fun l hl => q l _ hl (Ex.new hl) upd_same⟩
/-- len of anything with a length, by name -/
def rAbs : List V → Hp → VK → Prop := fun xs H Q => ∃ i, xs = [.int i] ∧ Q (.int (if i < 0 then -i else i)) H
def rInt1 : List V → Hp → VK → Prop := fun xs H Q => (∃ i, xs = [.int i] ∧ Q (.int i) H) ∨ ∃ k, xs = [.bl k] ∧ Q (.int (if k then 1 else 0)) H
theorem cr_abs {X : Cx} : CallR X (.builtin "abs") rAbs := call_abs
theorem cr_int {X : Cx} : CallR X (.type "int") rInt1 := call_int1
theorem cr_len {X : Cx} : CallR X (.builtin "len") (rLen X.K) := call_len
theorem r_abs {i : Int} (q : Q (.int (i.natAbs : Int)) H) : rAbs [.int i] H Q := ⟨i, rfl, by
  have e : (if i < 0 then -i else i) = (i.natAbs : Int) := by split <;> omega
  rw [e]; exact q⟩
theorem r_int {i : Int} (q : Q (.int i) H) : rInt1 [.int i] H Q := .inl ⟨i, rfl, q⟩
theorem r_intB {k : Bool} (q : Q (.int (if k then 1 else 0)) H) : rInt1 [.bl k] H Q := .inr ⟨k, rfl, q⟩
/-! parts of a slice, xs[::-1] -/
theorem w_sl {r : V → Option Int → Option Int → Hp → VK → Prop} {tl th : TO} (h : te σ H fun x H1 => tl σ H1 fun l H2 => th σ H2 fun u H3 => r x l u H3 Q) : tSl r te tl th σ H Q := h
theorem w_nop {QO : Option Int → Hp → Prop} (q : QO none H) : tNoPart σ H QO := q
def kPart (QO : Option Int → Hp → Prop) : VK := fun x H1 => ∃ i, x = .int i ∧ QO (some i) H1
theorem w_part {QO : Option Int → Hp → Prop} (h : te σ H (kPart QO)) : tPart te σ H QO := h
theorem k_part {QO : Option Int → Hp → Prop} {i : Int} (q : QO (some i) H) : kPart QO (.int i) H := ⟨i, rfl, q⟩
def kRevL (K : PySem.W.Frag) (Q : VK) : VK := fun x H1 => ∃ a xs, x = .ref a ∧ SqL K H1 a xs ∧ ∀ p, H1 p = none → Q (.ref p) (upd H1 p (.lst xs.reverse))
theorem w_revL (h : te σ H (kRevL K Q)) : tRevL K te σ H Q := h
theorem k_revL {p : Addr} {xs : List V} (h : SqL K H p xs) (q : ∀ l H2, H l = none → Ex H H2 → H2 l = some (.lst xs.reverse) → Q (.ref l) H2) : kRevL K Q (.ref p) H := ⟨p, xs, rfl, h, fun l hl => q l _ hl (Ex.new hl) upd_same⟩
/-! tests -/
def kB (QB : Bool → Hp → Prop) : VK := fun x H1 => ∃ c, x = .bl c ∧ QB c H1
theorem w_test (h : te σ H (kB QB)) : tTest te σ H QB := h
theorem w_B (h : te σ H (kB QB)) : tB te σ H QB := h
theorem k_B (q : QB b H) : kB QB (.bl b) H := ⟨b, rfl, q⟩
theorem w_and (h : t σ H fun c H1 => if c = true then u σ H1 QB else QB false H1) : tAnd t u σ H QB := h
theorem w_or (h : t σ H fun c H1 => if c = true then QB true H1 else u σ H1 QB) : tOr t u σ H QB := h
theorem w_not (h : t σ H fun c H1 => QB (!c) H1) : tNot t σ H QB := h
theorem w_yes (q : QB true H) : tYes σ H QB := q
def kAndV (tb : TE) (σ : St) (Q : VK) : VK := fun x H1 => ∃ c, x = .bl c ∧ if c = true then tb σ H1 Q else Q (.bl false) H1
def kOrV (tb : TE) (σ : St) (Q : VK) : VK := fun x H1 => ∃ c, x = .bl c ∧ if c = true then Q (.bl true) H1 else tb σ H1 Q
def kNotV (Q : VK) : VK := fun x H1 => ∃ c, x = .bl c ∧ Q (.bl (!c)) H1
theorem w_andV (h : ta σ H (kAndV tb σ Q)) : tAndV ta tb σ H Q := h
theorem w_orV (h : ta σ H (kOrV tb σ Q)) : tOrV ta tb σ H Q := h
theorem w_notV (h : ta σ H (kNotV Q)) : tNotV ta σ H Q := h
theorem k_andV (q : if b = true then tb σ H Q else Q (.bl false) H) : kAndV tb σ Q (.bl b) H := ⟨b, rfl, q⟩
theorem k_orV (q : if b = true then Q (.bl true) H else tb σ H Q) : kOrV tb σ Q (.bl b) H := ⟨b, rfl, q⟩
theorem k_notV (q : Q (.bl (!b)) H) : kNotV Q (.bl b) H := ⟨b, rfl, q⟩
theorem w_if (h : t σ H fun c H1 => if c = true then ta σ H1 Q else tb σ H1 Q) : tIf t ta tb σ H Q := h
theorem w_chain (h : ta σ H fun x H1 => tb σ H1 fun y H2 => r x y H2 fun z H3 => ∃ k, z = .bl k ∧ (if k = true then tc σ H3 fun w' H4 => r' y w' H4 Q else Q (.bl false) H3)) : tChain r r' ta tb tc σ H Q := h
theorem ex_bl {k : Bool} {A : Bool → Prop} (h : A k) : ∃ k', V.bl k = .bl k' ∧ A k' := ⟨k, rfl, h⟩
theorem w_isN (h : ta σ H fun x H1 => Q (.bl (decide (x = .non))) H1) : tIsN ta σ H Q := h
theorem w_notN (h : ta σ H fun x H1 => Q (.bl (!decide (x = .non))) H1) : tNotN ta σ H Q := h
end
theorem if_pos' {A B : Prop} (h : A) : if true = true then A else B := by rw [if_pos rfl]; exact h
theorem if_neg' {A B : Prop} (h : B) : if false = true then A else B := by rw [if_neg Bool.false_ne_true]; exact h
theorem if_by {b : Bool} {A B : Prop} (h1 : b = true → A) (h2 : b = false → B) : if b = true then A else B := by
  cases b with
  | true => exact if_pos' (h1 rfl)
  | false => exact if_neg' (h2 rfl)
/-! ### statements -/
section
variable {K : PySem.W.Frag} {σ : St} {H : Hp} {i : Nat} {v : V} {te : TE} {c : TT} {t u z : TS} {f bk ct : St → Hp → Prop} {rt : VK} {g : TG}
theorem w_seq (h : t ⟨u ⟨f, rt, bk, ct⟩, rt, bk, ct⟩ σ H) : tSeq t u ⟨f, rt, bk, ct⟩ σ H := h
theorem w_set (h : te σ H fun x H1 => f (σ.set i (some x)) H1) : tAsg te (gName i) ⟨f, rt, bk, ct⟩ σ H := h
theorem w_asg (h : te σ H fun x H1 => g x σ H1 f) : tAsg te g ⟨f, rt, bk, ct⟩ σ H := h
theorem w_drop (h : te σ H fun _ H1 => f σ H1) : tDrop te ⟨f, rt, bk, ct⟩ σ H := h
theorem w_ret (h : te σ H rt) : tRet te ⟨f, rt, bk, ct⟩ σ H := h
theorem w_retN (h : rt .non H) : tRetN ⟨f, rt, bk, ct⟩ σ H := h
theorem w_next (h : f σ H) : tNext ⟨f, rt, bk, ct⟩ σ H := h
theorem w_brk (h : bk σ H) : tBreak ⟨f, rt, bk, ct⟩ σ H := h
theorem w_cont (h : ct σ H) : tCont ⟨f, rt, bk, ct⟩ σ H := h
theorem w_ifS (h : c σ H fun b H1 => if b = true then t ⟨f, rt, bk, ct⟩ σ H1 else u ⟨f, rt, bk, ct⟩ σ H1) : tIfS c t u ⟨f, rt, bk, ct⟩ σ H := h
theorem w_aug {ti : TIp} (h : σ[i]? = some (some v)) (q : te σ H fun y H1 => ti v y H1 fun z H2 => f (σ.set i (some z)) H2) : tAug i te ti ⟨f, rt, bk, ct⟩ σ H := ⟨v, h, q⟩
theorem i_I {fn : Int → Int → Int} {a b : Int} {Q : VK} (q : Q (.int (fn a b)) H) : ipI fn (.int a) (.int b) H Q := ⟨a, b, rfl, rfl, q⟩
theorem w_gname {QS : St → Hp → Prop} (q : QS (σ.set i (some v)) H) : gName i v σ H QS := q
theorem w_gsub {to ti : TE} {ts : TSet} {QS : St → Hp → Prop} (h : to σ H fun o H1 => ti σ H1 fun i H2 => ts o i v H2 fun H3 => QS σ H3) : gSub to ti ts v σ H QS := h
theorem w_gtup {n : Nat} {tg : TGs} {p : Addr} {xs : List V} {QS : St → Hp → Prop} (h : SqT K H p xs) (e : xs.length = n) (q : tg xs σ H QS) : gTup K n tg (.ref p) σ H QS := ⟨p, xs, rfl, h, e, q⟩
theorem w_gnil {QS : St → Hp → Prop} (q : QS σ H) : gNil [] σ H QS := ⟨rfl, q⟩
theorem w_gcons {tg : TG} {us : TGs} {vs : List V} {QS : St → Hp → Prop} (q : tg v σ H fun σ' H' => us vs σ' H' QS) : gCons tg us (v :: vs) σ H QS := ⟨v, vs, rfl, q⟩
theorem w_par {i j : Nat} {ta : TA} (h : ta σ H fun vs H1 => ∃ v w, vs = [v, w] ∧ f ((σ.set i (some v)).set j (some w)) H1) : tPar i j ta ⟨f, rt, bk, ct⟩ σ H := h
theorem par_ok {i j : Nat} {x y : V} {F : St → Hp → Prop} (q : F ((σ.set i (some x)).set j (some y)) H) : ∃ v w, [x, y] = [v, w] ∧ F ((σ.set i (some v)).set j (some w)) H := ⟨x, y, rfl, q⟩
theorem par_ok3 {i j l : Nat} {x y z : V} {F : St → Hp → Prop} (q : F (((σ.set i (some x)).set j (some y)).set l (some z)) H) : ∃ u v w, [x, y, z] = [u, v, w] ∧ F (((σ.set i (some u)).set j (some v)).set l (some w)) H := ⟨x, y, z, rfl, q⟩
theorem w_par3 {i j l : Nat} {ta : TA} (h : ta σ H fun vs H1 => ∃ u v w, vs = [u, v, w] ∧ f (((σ.set i (some u)).set j (some v)).set l (some w)) H1) : tPar3 i j l ta ⟨f, rt, bk, ct⟩ σ H := h
/-- what follows, shown once -/
theorem w_cut (Post : St → Hp → Prop) (out : ∀ σ' H', Post σ' H' → f σ' H') (h : ∀ f' : St → Hp → Prop, (∀ σ' H', Post σ' H' → f' σ' H') → t ⟨f', rt, bk, ct⟩ σ H) : t ⟨f, rt, bk, ct⟩ σ H := h f out
/-! ### loops: what the walk over a value asks, and how it is shown by an invariant -/
def kFor (J : Addr → It) (S : Addr → Hp → Prop) (g : TG) (tb : TS) (D : Ends) (σ : St) : VK := fun x H1 => ∃ a, x = .ref a ∧ S a H1 ∧ ∃ W : Nat → Nat → St → Hp → Prop, (∃ m, W 0 m σ H1) ∧ ∀ i m σ H, W i m σ H →
  ((J a).stop i H ∧ D.nx σ H) ∨ ((J a).go i H ∧ ∃ N : St → Hp → Prop, (∀ σ' H', N σ' H' → ∃ m', m' < m ∧ W (i + 1) m' σ' H') ∧ ∀ x H', (J a).yld i H x H' → g x σ H' fun σ2 H2 => tb { D with nx := N, ct := N, bk := D.nx } σ2 H2)
theorem w_forL (h : te σ H (kFor (Itl K) (fun a H1 => ∃ xs, SqL K H1 a xs) g t ⟨f, rt, bk, ct⟩ σ)) : tFor (iList K te) g t ⟨f, rt, bk, ct⟩ σ H := h
theorem w_forT (h : te σ H (kFor (Itt K) (fun a H1 => ∃ xs, SqT K H1 a xs) g t ⟨f, rt, bk, ct⟩ σ)) : tFor (iTup K te) g t ⟨f, rt, bk, ct⟩ σ H := h
theorem k_forL {a : Addr} {xs : List V} (h : SqL K H a xs) (Pv : Nat → St → Hp → Prop) (h0 : Pv 0 σ H) (hl : ∀ i σ' H', i ≤ xs.length → Pv i σ' H' → SqL K H' a xs)
    (hs : ∀ i x σ' H', xs[i]? = some x → Pv i σ' H' → g x σ' H' fun σ2 H2 => t ⟨Pv (i + 1), rt, f, Pv (i + 1)⟩ σ2 H2) (hd : ∀ σ' H', Pv xs.length σ' H' → f σ' H') :
    kFor (Itl K) (fun a H1 => ∃ xs, SqL K H1 a xs) g t ⟨f, rt, bk, ct⟩ σ (.ref a) H := ⟨a, rfl, ⟨xs, h⟩, for_list (D := ⟨f, rt, bk, ct⟩) Pv h0 hl hs hd⟩
theorem k_forT {a : Addr} {xs : List V} (h : SqT K H a xs) (Pv : Nat → St → Hp → Prop) (h0 : Pv 0 σ H) (hl : ∀ i σ' H', i ≤ xs.length → Pv i σ' H' → SqT K H' a xs)
    (hs : ∀ i x σ' H', xs[i]? = some x → Pv i σ' H' → g x σ' H' fun σ2 H2 => t ⟨Pv (i + 1), rt, f, Pv (i + 1)⟩ σ2 H2) (hd : ∀ σ' H', Pv xs.length σ' H' → f σ' H') :
    kFor (Itt K) (fun a H1 => ∃ xs, SqT K H1 a xs) g t ⟨f, rt, bk, ct⟩ σ (.ref a) H := ⟨a, rfl, ⟨xs, h⟩, for_tup (D := ⟨f, rt, bk, ct⟩) Pv h0 hl hs hd⟩
/-- range(n), range(a, b) -/
def aRng1 (g : TG) (tb : TS) (D : Ends) (σ : St) : List V → Hp → Prop := fun vs H1 => ∃ j : Int, vs = [.int j] ∧ -(2 ^ 62) ≤ j ∧ j < 2 ^ 62 ∧ ∃ W : Nat → Nat → St → Hp → Prop, (∃ m, W 0 m σ H1) ∧ ∀ i m σ H, W i m σ H →
  ((Itr 0 j.toNat).stop i H ∧ D.nx σ H) ∨ ((Itr 0 j.toNat).go i H ∧ ∃ N : St → Hp → Prop, (∀ σ' H', N σ' H' → ∃ m', m' < m ∧ W (i + 1) m' σ' H') ∧ ∀ x H', (Itr 0 j.toNat).yld i H x H' → g x σ H' fun σ2 H2 => tb { D with nx := N, ct := N, bk := D.nx } σ2 H2)
theorem w_forR1 {a : TA} (h : a σ H (aRng1 g t ⟨f, rt, bk, ct⟩ σ)) : tFor (iRng1 a) g t ⟨f, rt, bk, ct⟩ σ H := h
theorem a_rng1 {n : Nat} {j : Int} (e : j = (n : Int)) (hn : n ≤ 100000000) (Pv : Nat → St → Hp → Prop) (h0 : Pv 0 σ H)
    (hs : ∀ (i : Nat) σ' H', i < n → Pv i σ' H' → g (.int (i : Int)) σ' H' fun σ2 H2 => t ⟨Pv (i + 1), rt, f, Pv (i + 1)⟩ σ2 H2) (hd : ∀ σ' H', Pv n σ' H' → f σ' H') : aRng1 g t ⟨f, rt, bk, ct⟩ σ [.int j] H := by
  subst e
  refine ⟨_, rfl, by omega, by omega, ?_⟩
  rw [Int.toNat_natCast]
  refine for_range (D := ⟨f, rt, bk, ct⟩) (lo := 0) (n := n) Pv h0 (fun i σ' H' hi p => ?_) hd
  have q := hs i σ' H' hi p
  rw [Int.zero_add]
  exact q
/-- enumerate(a list) -/
def aEnum (K : PySem.W.Frag) (g : TG) (tb : TS) (D : Ends) (σ : St) : List V → Hp → Prop := fun vs H1 => ∃ a xs, vs = [.ref a] ∧ SqL K H1 a xs ∧ ∃ W : Nat → Nat → St → Hp → Prop, (∃ m, W 0 m σ H1) ∧ ∀ i m σ H, W i m σ H →
  ((Ite K a).stop i H ∧ D.nx σ H) ∨ ((Ite K a).go i H ∧ ∃ N : St → Hp → Prop, (∀ σ' H', N σ' H' → ∃ m', m' < m ∧ W (i + 1) m' σ' H') ∧ ∀ x H', (Ite K a).yld i H x H' → g x σ H' fun σ2 H2 => tb { D with nx := N, ct := N, bk := D.nx } σ2 H2)
theorem w_forE {a : TA} (h : a σ H (aEnum K g t ⟨f, rt, bk, ct⟩ σ)) : tFor (iEnum K a) g t ⟨f, rt, bk, ct⟩ σ H := h
theorem a_enum {a : Addr} {xs : List V} (h : SqL K H a xs) (Pv : Nat → St → Hp → Prop) (h0 : Pv 0 σ H) (hl : ∀ i σ' H', i ≤ xs.length → Pv i σ' H' → SqL K H' a xs)
    (hs : ∀ i x σ' H' T H2, xs[i]? = some x → Pv i σ' H' → H' T = none → Ex H' H2 → H2 T = some (.tup [.int (i : Int), x]) → g (.ref T) σ' H2 fun σ2 H2 => t ⟨Pv (i + 1), rt, f, Pv (i + 1)⟩ σ2 H2) (hd : ∀ σ' H', Pv xs.length σ' H' → f σ' H') :
    aEnum K g t ⟨f, rt, bk, ct⟩ σ [.ref a] H := by
  refine ⟨a, xs, rfl, h, fun i m σ H => m = xs.length - i ∧ i ≤ xs.length ∧ Pv i σ H, ⟨xs.length, by simp, Nat.zero_le _, h0⟩, ?_⟩
  rintro i m σ H ⟨rfl, hi, p⟩
  have q := hl i σ H hi p
  by_cases hlt : i < xs.length
  · have hx : xs[i]? = some xs[i] := List.getElem?_eq_getElem hlt
    refine .inr ⟨⟨xs, _, q, hx⟩, Pv (i + 1), fun σ' H' p' => ⟨xs.length - (i + 1), by omega, rfl, hlt, p'⟩, fun v H' y => ?_⟩
    obtain ⟨T, x', rfl, hT, rfl, f1⟩ := y
    exact hs i x' σ H T _ (f1 xs q) p hT (Ex.new hT) upd_same
  · have e : i = xs.length := by omega
    subst e
    exact .inl ⟨⟨xs, q, Nat.le_refl _⟩, hd σ H p⟩
/-- while: an invariant, a number that falls -/
def kWh (Pv : Nat → St → Hp → Prop) (m : Nat) (tb : TS) (D : Ends) (σ : St) : Bool → Hp → Prop := fun b H1 => if b = true then ∃ N : St → Hp → Prop, (∀ σ' H', N σ' H' → ∃ m', m' < m ∧ Pv m' σ' H') ∧ tb { D with nx := N, ct := N, bk := D.nx } σ H1 else D.nx σ H1
theorem w_while (Pv : Nat → St → Hp → Prop) (m0 : Nat) (h0 : Pv m0 σ H) (hs : ∀ m σ' H', Pv m σ' H' → c σ' H' (kWh Pv m t ⟨f, rt, bk, ct⟩ σ')) : tWhile c t ⟨f, rt, bk, ct⟩ σ H := ⟨Pv, ⟨m0, h0⟩, hs⟩
theorem k_wh {Pv : Nat → St → Hp → Prop} {m : Nat} {b : Bool} (h1 : b = true → t ⟨fun σ2 H2 => ∃ m', m' < m ∧ Pv m' σ2 H2, rt, f, fun σ2 H2 => ∃ m', m' < m ∧ Pv m' σ2 H2⟩ σ H) (h2 : b = false → f σ H) : kWh Pv m t ⟨f, rt, bk, ct⟩ σ b H := by
  unfold kWh
  cases b with
  | true => rw [if_pos rfl]; exact ⟨_, fun _ _ h => h, h1 rfl⟩
  | false => rw [if_neg Bool.false_ne_true]; exact h2 rfl
end
/-! ### comprehensions: the list made so far, what is known with it -/
section
variable {K : PySem.W.Frag} {σ : St} {H : Hp} {v : V} {tl te : TE} {tt : TT} {g : TG} {vs : List Nat} {Q : VK}
/-- what a comprehension asks of what it walks -/
def LcW (J : It) (g : TG) (tt : TT) (te : TE) (vs : List Nat) (σ : St) (Q : VK) (H1 : Hp) : Prop := ∀ D, H1 D = none → ∃ W : Nat → Nat → Hp → Prop, (∃ m, W 0 m (upd H1 D (.lst []))) ∧ ∀ i m H, W i m H →
  (J.stop i H ∧ Q (.ref D) H) ∨ (J.go i H ∧ ∃ Nx : Hp → Prop, (∀ H', Nx H' → ∃ m', m' < m ∧ W (i + 1) m' H') ∧ ∀ x H', J.yld i H x H' → g x (wipe σ vs) H' fun σ2 H2 => wipe σ2 vs = wipe σ vs ∧ tt σ2 H2 fun b H3 =>
    if b = true then te σ2 H3 fun y H4 => ∃ acc, H4 D = some (.lst acc) ∧ acc.length < sizeLine ∧ Nx (upd H4 D (.lst (acc ++ [y]))) else Nx H3)
/-- at turn i: the list made so far, at D, and what is known with it -/
def Pc (P : Nat → List V → Addr → Hp → Prop) (D : Addr) (i : Nat) (H' : Hp) : Prop := ∃ acc, acc.length ≤ i ∧ H' D = some (.lst acc) ∧ P i acc D H'
def kLc (P : Nat → List V → Addr → Hp → Prop) (D : Addr) (i : Nat) : VK := fun y H4 => ∃ acc, H4 D = some (.lst acc) ∧ acc.length < sizeLine ∧ Pc P D (i + 1) (upd H4 D (.lst (acc ++ [y])))
/-- one turn's test and element, behind the target -/
def kTurn (tt : TT) (te : TE) (vs : List Nat) (P : Nat → List V → Addr → Hp → Prop) (D : Addr) (i : Nat) (σ : St) : St → Hp → Prop := fun σ2 H2 => wipe σ2 vs = wipe σ vs ∧ tt σ2 H2 fun b H3 => if b = true then te σ2 H3 (kLc P D i) else Pc P D (i + 1) H3
theorem k_turn {P : Nat → List V → Addr → Hp → Prop} {D : Addr} {i : Nat} {σ2 : St} (e : wipe σ2 vs = wipe σ vs) (q : tt σ2 H fun b H3 => if b = true then te σ2 H3 (kLc P D i) else Pc P D (i + 1) H3) : kTurn tt te vs P D i σ σ2 H := ⟨e, q⟩
theorem k_turn1 {P : Nat → List V → Addr → Hp → Prop} {D : Addr} {i : Nat} {σ2 : St} (e : wipe σ2 vs = wipe σ vs) (q : te σ2 H (kLc P D i)) : kTurn tYes te vs P D i σ σ2 H := ⟨e, by show (if true = true then te σ2 H (kLc P D i) else Pc P D (i + 1) H); rw [if_pos rfl]; exact q⟩
theorem k_lc {P : Nat → List V → Addr → Hp → Prop} {D : Addr} {i : Nat} {acc : List V} (h : H D = some (.lst acc)) (hl : acc.length ≤ i) (hi : i < 90000) (q : ∀ H5, H5 D = some (.lst (acc ++ [v])) → (∀ a o, a ≠ D → H a = some o → H5 a = some o) → P (i + 1) (acc ++ [v]) D H5) : kLc P D i v H :=
  ⟨acc, h, sz_lt (by omega), acc ++ [v], by simp; omega, upd_same, q _ upd_same fun a o n e => by rw [upd_ne n]; exact e⟩
theorem k_lcN {P : Nat → List V → Addr → Hp → Prop} {D : Addr} {i : Nat} {acc : List V} (h : H D = some (.lst acc)) (hl : acc.length ≤ i) (q : P (i + 1) acc D H) : Pc P D (i + 1) H := ⟨acc, by omega, h, q⟩
/-- over a list -/
theorem lcL {a : Addr} {xs : List V} (P : Nat → List V → Addr → Hp → Prop) (h0 : ∀ D H2, H D = none → Ex H H2 → H2 D = some (.lst []) → P 0 [] D H2) (hl : ∀ i acc D H', i ≤ xs.length → P i acc D H' → SqL K H' a xs)
    (hs : ∀ i x acc D H', xs[i]? = some x → acc.length ≤ i → H D = none → H' D = some (.lst acc) → P i acc D H' → g x (wipe σ vs) H' (kTurn tt te vs P D i σ))
    (hd : ∀ acc D H', acc.length ≤ xs.length → H D = none → H' D = some (.lst acc) → P xs.length acc D H' → Q (.ref D) H') : LcW (Itl K a) g tt te vs σ Q H := by
  intro D hD
  refine lc_list (xs := xs) (Pc P D) ⟨[], Nat.le_refl _, upd_same, h0 D _ hD (Ex.new hD) upd_same⟩ (fun i H' hi p => ?_) (fun i x H' hx p => ?_) (fun H' p => ?_)
  · obtain ⟨acc, _, _, p⟩ := p
    exact hl i acc D H' hi p
  · obtain ⟨acc, h1, h2, p⟩ := p
    exact hs i x acc D H' hx h1 hD h2 p
  · obtain ⟨acc, h1, h2, p⟩ := p
    exact hd acc D H' h1 hD h2 p
theorem lcT {a : Addr} {xs : List V} (P : Nat → List V → Addr → Hp → Prop) (h0 : ∀ D H2, H D = none → Ex H H2 → H2 D = some (.lst []) → P 0 [] D H2) (hl : ∀ i acc D H', i ≤ xs.length → P i acc D H' → SqT K H' a xs)
    (hs : ∀ i x acc D H', xs[i]? = some x → acc.length ≤ i → H D = none → H' D = some (.lst acc) → P i acc D H' → g x (wipe σ vs) H' (kTurn tt te vs P D i σ))
    (hd : ∀ acc D H', acc.length ≤ xs.length → H D = none → H' D = some (.lst acc) → P xs.length acc D H' → Q (.ref D) H') : LcW (Itt K a) g tt te vs σ Q H := by
  intro D hD
  refine lc_tup (xs := xs) (Pc P D) ⟨[], Nat.le_refl _, upd_same, h0 D _ hD (Ex.new hD) upd_same⟩ (fun i H' hi p => ?_) (fun i x H' hx p => ?_) (fun H' p => ?_)
  · obtain ⟨acc, _, _, p⟩ := p
    exact hl i acc D H' hi p
  · obtain ⟨acc, h1, h2, p⟩ := p
    exact hs i x acc D H' hx h1 hD h2 p
  · obtain ⟨acc, h1, h2, p⟩ := p
    exact hd acc D H' h1 hD h2 p
theorem lcR {n : Nat} (P : Nat → List V → Addr → Hp → Prop) (h0 : ∀ D H2, H D = none → Ex H H2 → H2 D = some (.lst []) → P 0 [] D H2)
    (hs : ∀ i acc D H', i < n → acc.length ≤ i → H D = none → H' D = some (.lst acc) → P i acc D H' → g (.int (i : Int)) (wipe σ vs) H' (kTurn tt te vs P D i σ))
    (hd : ∀ acc D H', acc.length ≤ n → H D = none → H' D = some (.lst acc) → P n acc D H' → Q (.ref D) H') : LcW (Itr 0 n) g tt te vs σ Q H := by
  intro D hD
  refine lc_range (n := n) (lo := 0) (Pc P D) ⟨[], Nat.le_refl _, upd_same, h0 D _ hD (Ex.new hD) upd_same⟩ (fun i H' hx p => ?_) (fun H' p => ?_)
  · obtain ⟨acc, h1, h2, p⟩ := p
    have q := hs i acc D H' hx h1 hD h2 p
    rw [show (0 : Int) + (i : Int) = (i : Int) from Int.zero_add _]
    exact q
  · obtain ⟨acc, h1, h2, p⟩ := p
    exact hd acc D H' h1 hD h2 p
def kLcL (K : PySem.W.Frag) (g : TG) (tt : TT) (te : TE) (vs : List Nat) (σ : St) (Q : VK) : VK := fun x H1 => ∃ a, x = .ref a ∧ (∃ xs, SqL K H1 a xs) ∧ LcW (Itl K a) g tt te vs σ Q H1
def kLcT (K : PySem.W.Frag) (g : TG) (tt : TT) (te : TE) (vs : List Nat) (σ : St) (Q : VK) : VK := fun x H1 => ∃ a, x = .ref a ∧ (∃ xs, SqT K H1 a xs) ∧ LcW (Itt K a) g tt te vs σ Q H1
def aLcR (g : TG) (tt : TT) (te : TE) (vs : List Nat) (σ : St) (Q : VK) : List V → Hp → Prop := fun us H1 => ∃ j : Int, us = [.int j] ∧ -(2 ^ 62) ≤ j ∧ j < 2 ^ 62 ∧ LcW (Itr 0 j.toNat) g tt te vs σ Q H1
theorem w_lcL (h : tl σ H (kLcL K g tt te vs σ Q)) : tLc (iList K tl) g tt te vs σ H Q := h
theorem w_lcT (h : tl σ H (kLcT K g tt te vs σ Q)) : tLc (iTup K tl) g tt te vs σ H Q := h
theorem w_lcR {a : TA} (h : a σ H (aLcR g tt te vs σ Q)) : tLc (iRng1 a) g tt te vs σ H Q := h
theorem k_lcL {a : Addr} {xs : List V} (h : SqL K H a xs) (q : LcW (Itl K a) g tt te vs σ Q H) : kLcL K g tt te vs σ Q (.ref a) H := ⟨a, rfl, ⟨xs, h⟩, q⟩
theorem k_lcT {a : Addr} {xs : List V} (h : SqT K H a xs) (q : LcW (Itt K a) g tt te vs σ Q H) : kLcT K g tt te vs σ Q (.ref a) H := ⟨a, rfl, ⟨xs, h⟩, q⟩
theorem a_lcR {n : Nat} {j : Int} (e : j = (n : Int)) (hn : n ≤ 100000000) (q : LcW (Itr 0 n) g tt te vs σ Q H) : aLcR g tt te vs σ Q [.int j] H := by
  subst e
  exact ⟨_, rfl, by omega, by omega, by rw [Int.toNat_natCast]; exact q⟩
end
end BkG
local macro_rules | `(tactic| walk_at "w1") => `(tactic| first
  | with_reducible refine w_seq ?_ | with_reducible refine w_set ?_ | with_reducible refine w_ret ?_ | with_reducible refine w_drop ?_ | with_reducible refine w_ifS ?_
  | with_reducible refine w_next ?_ | with_reducible refine w_c ?_ | (with_reducible refine w_var ?hv ?_; (case hv => rfl)) | with_reducible refine w_op ?_ | with_reducible refine w_cons ?_ | with_reducible refine w_nil ?_
  | with_reducible refine w_cb ?_ | with_reducible refine w_call ?_ | with_reducible refine w_tup ?_ | with_reducible refine w_lst ?_ | with_reducible refine w_bm ?_ | with_reducible refine w_bm0 ?_ | with_reducible refine w_un ?_
  | with_reducible refine w_test ?_ | with_reducible refine w_B ?_ | with_reducible refine k_B ?_ | with_reducible refine w_and ?_ | with_reducible refine w_or ?_ | with_reducible refine w_not ?_ | with_reducible refine w_if ?_
  | with_reducible refine w_andV ?_ | with_reducible refine w_orV ?_ | with_reducible refine w_notV ?_ | with_reducible refine k_andV ?_ | with_reducible refine k_orV ?_ | with_reducible refine k_notV ?_
  | with_reducible refine w_chain ?_ | with_reducible refine ex_bl ?_ | with_reducible refine w_isN ?_ | with_reducible refine w_notN ?_ | with_reducible refine w_yes ?_
  | with_reducible refine r_I0 ?_ | with_reducible refine r_U ?_ | with_reducible refine r_eqI ?_ | with_reducible refine r_neI ?_ | with_reducible refine r_eqS ?_ | with_reducible refine r_neS ?_ | with_reducible refine r_eqB ?_ | with_reducible refine r_neB ?_
  | with_reducible refine r_abs ?_ | with_reducible refine r_int ?_ | with_reducible refine r_intB ?_
  | with_reducible refine w_sl ?_ | with_reducible refine w_nop ?_ | with_reducible refine w_part ?_ | with_reducible refine k_part ?_ | with_reducible refine w_revL ?_
  | with_reducible refine w_asg ?_ | with_reducible refine w_gname ?_ | with_reducible refine w_gsub ?_ | with_reducible refine w_gnil ?_ | with_reducible refine w_gcons ?_ | with_reducible refine w_retN ?_ | with_reducible refine w_brk ?_ | with_reducible refine w_cont ?_
  | with_reducible refine w_par ?_ | with_reducible refine w_par3 ?_ | with_reducible refine par_ok ?_ | with_reducible refine par_ok3 ?_ | (with_reducible refine w_aug ?hv ?_; (case hv => rfl)) | with_reducible refine i_I ?_
  | with_reducible refine w_forL ?_ | with_reducible refine w_forT ?_ | with_reducible refine w_forR1 ?_ | with_reducible refine w_forE ?_ | with_reducible refine w_lcL ?_ | with_reducible refine w_lcT ?_ | with_reducible refine w_lcR ?_
  | (with_reducible refine a_tup ?hz ?_; (case hz => decide); intro _ _ _ _ _) | (with_reducible refine a_lst ?hz ?_; (case hz => decide); intro _ _ _ _ _)
  | (with_reducible refine if_pos' ?_) | (with_reducible refine if_neg' ?_))
local macro_rules | `(tactic| walk_at "w") => `(tactic| repeat (walk_at "w1"))
namespace BkG
open PySem PySem.Spec PyProof.Rows L2
/-! ### defs of the text and what they promise -/
structure Fn (K : PySem.W.Frag) (mg : Str → Option Value) (x : Str) (st : Stmt) (ps : List Str) : Prop where
  ex : ∃ f fd, Fun K x x st f fd ∧ mg x = some (.ref f) ∧ Binds K fd ps [] ∧ KBn K fd ps 0 ps (fun _ ws => ws) (fun _ zs => zs)
theorem fn_mk {K : PySem.W.Frag} {mg : Str → Option Value} {h : Heap} {x : Str} {st : Stmt} {ps : List Str} {f : Addr} {oc : Value} {od an : Option Addr} {osl : Array (Option Value)} {kV doc pm cdv ct : Value} (X : K.In h) (G : h.Ns mainGlobals mg)
    (hb : ∀ (kV doc pm : Value) (an : Option Addr) (cdv ct : Value) (us : List Value), us.length = ps.length → bindArgs (PySem.W.fnOf x x (defArgs st) (defBody st) (defScope st) .none kV doc pm an cdv ct) ⟨us, []⟩ = pure (ps.zip us))
    (hb2 : ∀ (kV doc pm : Value) (an : Option Addr) (cdv ct : Value) (us : List Value), us.length = ps.length → bindArgs (PySem.W.fnOf x x (defArgs st) (defBody st) (defScope st) .none kV doc pm an cdv ct) ⟨[], ps.zip us⟩ = pure (ps.zip us))
    (a : PySem.W.nsIn K mainGlobals x = some (some (.ref f))) (l : K.lookup f = some ⟨oc, od, .func (PySem.W.fnOf x x (defArgs st) (defBody st) (defScope st) .none kV doc pm an cdv ct), osl⟩) (c : PySem.W.codeIn K cdv x = true) (k : PySem.W.keepIn K (.ref f) = true) : Fn K mg x st ps :=
  ⟨f, _, fun_mk l c k, PySem.W.mg_of X G a, (fun_mk (st := st) l c k).binds hb, ⟨fun s us ws _ l1 l2 => (by
    have e : us = [] := List.eq_nil_of_length_eq_zero l1
    subst e
    exact .of_eq (hb2 kV doc pm an cdv ct ws l2)), fun _ r => r⟩⟩
structure Cal (P : Program) (w : World) (K : PySem.W.Frag) (mg : Str → Option Value) (base : Heap) (k : Nat) (x : Str) (sp : Sp) : Prop where
  ex : ∃ f fd ps, FnOk P w K mg base CX0 k f fd ps sp ∧ mg x = some (.ref f) ∧ PySem.W.keepIn K (.ref f) = true ∧ Binds K fd ps []
section
variable {P : Program} {w : World} {K : PySem.W.Frag} {mg : Str → Option Value} {base : Heap}
theorem Fn.cal {x : Str} {st : Stmt} {N ps : List Str} {k : Nat} {sp : Sp} (F : Fn K mg x st ps) (S : FnScope N ps (defScope st)) (len : ∀ vs H Q E, sp vs H Q E → vs.length = ps.length)
    (hbody : ∀ (f : Addr) (cdv : Value) (A : Around) (outer : List Env) (s : Shared) (H : Hp) (vs : List V) (Q : VK) (E : XK), Room k (A.deeper (envOfC x (defScope st) s.heap.objs.size f cdv)) → sp vs H Q E →
      ∃ t, PSs (cxOf CX0 P w K mg base N x (defScope st) f cdv A outer s H E).nox (defBody st) t ∧ t { nx := fun _ H' => Q .non H', rt := Q } (start N vs) H) : Cal P w K mg base (k + 1) x sp := by
  obtain ⟨f, fd, F1, hm, hb, _⟩ := F.ex
  exact ⟨f, fd, ps, F1.ok S len (hbody f), hm, F1.kp, hb⟩
end
theorem Room.le {j k : Nat} {A : Around} (r : Room j A) (h : k ≤ j) : Room k A := r.mono h
theorem pe_c0 {X : Cx} {x : Str} {p pos : Pos} {e : Expr} {es : List Expr} {t : TA} {sp : Sp} {j k : Nat} (c : Cal X.prog X.w X.K X.mg X.base k x sp) (hr : Room j X.A) (hk : k ≤ j) (hg : Gl X x) (ha : PA X (e :: es) t)
    (hdb : (x == ("__debug__" : Str)) = false := by decide) (he : starEach (e :: es) X.env = (false, eval e X.env) :: starEach es X.env := by rfl) (hpl : (backTo pos (starEach es X.env)).any (·.1) = false := by rfl) :
    PE X (.Call (.Name x p) (e :: es) [] pos) (tCall sp [] E0 t) := by
  obtain ⟨f, fd, ps, F, hm, kp, b⟩ := c.ex
  exact pe_call F (hr.mono hk) hg hm kp b .nil pass0 ha hdb he hpl
/-- a module's name as a value -/
theorem pe_gc {X : Cx} {x : Str} {v : V} {pos : Pos} (hg : Gl X x) (h : ∃ u, X.mg x = some u ∧ RelV v u) (hd : (x == ("__debug__" : Str)) = false := by decide) : PE X (.Name x pos) (tC v) := by
  obtain ⟨u, hm, r⟩ := h
  exact pe_glob hg hm r hd
/-- built-in names that the module leaves alone -/
structure Bz (mg : Str → Option Value) : Prop where
  abs : mg "abs" = none
  int : mg "int" = none
  len : mg "len" = none
  range : mg "range" = none
  isinstance : mg "isinstance" = none
  tuple : mg "tuple" = none
  list : mg "list" = none
  bool : mg "bool" = none
  str : mg "str" = none
  zip : mg "zip" = none
  enumerate : mg "enumerate" = none
  sorted : mg "sorted" = none
  min : mg "min" = none
  max : mg "max" = none
  all : mg "all" = none
  any : mg "any" = none
  sum : mg "sum" = none
  dict : mg "dict" = none
/-! ### is True, is False -/
def rIsV : R2 := fun x y H Q => ∃ b : Bool, y = .bl b ∧ Q (.bl (decide (x = .bl b))) H
def rIsNotV : R2 := fun x y H Q => ∃ b : Bool, y = .bl b ∧ Q (.bl (!decide (x = .bl b))) H
theorem relV_bl {x : V} {v : Value} {b : Bool} (r : RelV x v) : (v = Value.bool b) ↔ x = .bl b := by
  cases x with
  | non => cases r; simp
  | bl c => cases r; simp
  | int _ => obtain ⟨t, rfl⟩ := r; simp
  | str _ => obtain ⟨t, rfl⟩ := r; simp
  | byt _ => obtain ⟨t, rfl⟩ := r; simp
  | flt _ => obtain ⟨t, rfl⟩ := r; simp
  | ref _ => cases r; simp
  | ty _ => cases r; simp
theorem plainIs_bool {x : V} {v : Value} {b : Bool} (r : RelV x v) : plainIs v (.bool b) = true := by
  cases x with
  | non => cases r; rfl
  | bl c => cases r; rfl
  | int _ => obtain ⟨t, rfl⟩ := r; rfl
  | str _ => obtain ⟨t, rfl⟩ := r; rfl
  | byt _ => obtain ⟨t, rfl⟩ := r; rfl
  | flt _ => obtain ⟨t, rfl⟩ := r; rfl
  | ref _ => cases r; rfl
  | ty _ => cases r; rfl
theorem op_isV {X : Cx} : OpR X (compareOp .Is) rIsV := by
  intro pins s σ H x y v u Q I rx ry h
  obtain ⟨b, rfl, q⟩ := h
  cases (show u = Value.bool b from ry)
  by_cases e : x = .bl b
  · subst e
    cases (show v = Value.bool b from rx)
    exact wpAny_is_self rfl ⟨.bl true, H, I, rfl, by simpa using q⟩
  · exact wpAny_is_other (plainIs_bool rx) (fun z => e ((relV_bl rx).mp z)) ⟨.bl false, H, I, rfl, by simpa [e] using q⟩
theorem op_isNotV {X : Cx} : OpR X (compareOp .IsNot) rIsNotV := by
  intro pins s σ H x y v u Q I rx ry h
  obtain ⟨b, rfl, q⟩ := h
  cases (show u = Value.bool b from ry)
  by_cases e : x = .bl b
  · subst e
    cases (show v = Value.bool b from rx)
    exact wpAny_isNot_self rfl ⟨.bl false, H, I, rfl, by simpa using q⟩
  · exact wpAny_isNot_other (plainIs_bool rx) (fun z => e ((relV_bl rx).mp z)) ⟨.bl true, H, I, rfl, by simpa [e] using q⟩
section
variable {K : PySem.W.Frag} {H : Hp} {Q : VK} {x y : V}
theorem r_isV {b : Bool} (q : Q (.bl (decide (x = .bl b))) H) : rIsV x (.bl b) H Q := ⟨b, rfl, q⟩
theorem r_isNotV {b : Bool} (q : Q (.bl (!decide (x = .bl b))) H) : rIsNotV x (.bl b) H Q := ⟨b, rfl, q⟩
theorem r_isN (q : Q (.bl (decide (x = .non))) H) : rIsN x .non H Q := ⟨rfl, q⟩
theorem r_notN (q : Q (.bl (!decide (x = .non))) H) : rNotN x .non H Q := ⟨rfl, q⟩
/-- texts, named -/
def rCatS : R2 := fun x y H Q => ∃ i j, x = .str i ∧ y = .str j ∧ i.length + j.length ≤ sizeLine ∧ Q (.str (i ++ j)) H
theorem op_catS {X : Cx} : OpR X (binaryOp .Add) rCatS := op_add_str
theorem r_catS {a b : Str} (h : a.length + b.length ≤ 100000) (q : Q (.str (a ++ b)) H) : rCatS (.str a) (.str b) H Q := ⟨a, b, rfl, rfl, sz_of h, q⟩
theorem r_inS {c : Nat} {z : Str} (q : Q (.bl (decide (c ∈ z.cps.toList))) H) : rInS (.str ⟨#[c]⟩) (.str z) H Q := ⟨c, z, rfl, rfl, q⟩
theorem r_notInS {c : Nat} {z : Str} (q : Q (.bl (!decide (c ∈ z.cps.toList))) H) : rNotInS (.str ⟨#[c]⟩) (.str z) H Q := ⟨c, z, rfl, rfl, q⟩
end
/-! ### shapes of plain data -/
theorem shaped_ints (ns : List Int) : SeqAt.shaped (.list (ns.map PyData.int)) = true := by
  have h1 : ∀ ns : List Int, PyData.canLayAll0 (ns.map PyData.int) = true := by
    intro ns
    induction ns with
    | nil => rfl
    | cons n r ih => rw [List.map_cons]; unfold PyData.canLayAll0; rw [ih]; rfl
  have h2 : ∀ ns : List Int, PyData.depthAll (ns.map PyData.int) = 0 := by
    intro ns
    induction ns with
    | nil => rfl
    | cons n r ih => rw [List.map_cons]; unfold PyData.depthAll; rw [ih]; rfl
  unfold SeqAt.shaped
  rw [show PyData.canLay0 (.list (ns.map PyData.int)) = true by unfold PyData.canLay0; exact h1 ns, show PyData.depth (.list (ns.map PyData.int)) = 1 by unfold PyData.depth; rw [h2]]
  rfl
theorem dp_ints {K : PySem.W.Frag} {H : Hp} {a : Addr} {ns : List Int} (h : SqL K H a (ns.map V.int)) : Dp K H (.ref a) (.list (ns.map PyData.int)) := by
  refine .lst h (dpAll_of (by simp) fun i v d h1 h2 => ?_)
  rw [List.getElem?_map] at h1 h2
  cases e : ns[i]? with
  | none => rw [e] at h1; cases h1
  | some n => rw [e] at h1 h2; cases h1; cases h2; exact .int n
theorem eqv_nil {xs : List PyData} : PyData.eqv (.list xs) (.list []) = xs.isEmpty := by
  cases xs <;> simp [PyData.eqv, PyData.eqvAll]
/-! ### the deal -/
/-- the source of draws at D: its great cells at L, and a number -/
structure DS (H : Hp) (D L : Addr) (st : List Int) (b : Int) : Prop where
  hD : H D = some (.lst [.ref L, .int b])
  hL : H L = some (.lst (st.map V.int))
  len : st.length ≤ 100
  all : ∀ z ∈ st, 0 ≤ z
  b0 : 0 ≤ b
  b1 : b < 2147483647
def Deal (H : Hp) (D L : Addr) : Prop := ∃ st b, DS H D L st b
theorem DS.ne {H : Hp} {D L : Addr} {st : List Int} {b : Int} (h : DS H D L st b) : D ≠ L := by
  intro e
  have h1 := h.hD
  rw [e, h.hL] at h1
  cases st with
  | nil => simp at h1
  | cons z r => simp at h1
theorem DS.keep {H H' : Hp} {D L : Addr} {st : List Int} {b : Int} (h : DS H D L st b) (k : Ex H H') : DS H' D L st b := ⟨k _ _ h.hD, k _ _ h.hL, h.len, h.all, h.b0, h.b1⟩
theorem Deal.keep {H H' : Hp} {D L : Addr} (h : Deal H D L) (k : Ex H H') : Deal H' D L := let ⟨st, b, d⟩ := h; ⟨st, b, d.keep k⟩
/-- the great cells change -/
theorem DS.setL {H H' : Hp} {D L : Addr} {st st' : List Int} {b : Int} (h : DS H D L st b) (k : Kp [L] H H') (hL : H' L = some (.lst (st'.map V.int))) (hl : st'.length ≤ 100) (ha : ∀ z ∈ st', 0 ≤ z) : DS H' D L st' b :=
  ⟨k _ _ h.hD (by simp [h.ne]), hL, hl, ha, h.b0, h.b1⟩
theorem Kp.wider {M M' : List Addr} {H H' : Hp} (k : Kp M H H') (s : ∀ a, a ∈ M → a ∈ M') : Kp M' H H' := fun a o h n => k a o h fun z => n (s a z)
def spAny : Sp := fun vs H Q _ => ∃ (D L : Addr) (n : Int), vs = [.ref D, .int n] ∧ Deal H D L ∧ 0 < n ∧ n.natAbs < 2 ^ 4000 ∧
  ∀ (z : Int) (H' : Hp), 0 ≤ z → z < n → Deal H' D L → Kp [D, L] H H' → Q (.int z) H'
theorem last_int {st : List Int} (h : st ≠ []) : (st.map V.int)[(st.map V.int).length - 1]? = some (.int (st.getLast h)) := by
  rw [List.getElem?_map, List.length_map, ← List.getLast?_eq_getElem?, List.getLast?_eq_some_getLast h]; rfl
theorem atI_last' {st : List Int} (h : st ≠ []) : atI (st.map V.int) (-1) = some (.int (st.getLast h)) := by
  unfold atI ixN
  have hl : 0 < st.length := List.length_pos_iff.mpr h
  rw [if_neg (by omega), if_pos (by rw [List.length_map]; omega)]
  show (st.map V.int)[(-1 + ((st.map V.int).length : Int)).toNat]? = _
  rw [show (-1 + ((st.map V.int).length : Int)).toNat = (st.map V.int).length - 1 by omega]
  exact last_int h
theorem mapdrop {st : List Int} : (st.map V.int).dropLast = st.dropLast.map V.int := by rw [List.dropLast_eq_take, List.dropLast_eq_take, List.map_take, List.length_map]
end BkG
namespace BkG
open PySem PySem.Spec PyProof.Rows L2
theorem Ex.at {H H' : Hp} {a : Addr} {o : HO} (e : Ex H H') (h : H a = some o) : H' a = some o := e a o h
theorem Kp.at {M : List Addr} {H H' : Hp} {a : Addr} {o : HO} (e : Kp M H H') (h : H a = some o) (n : a ∉ M) : H' a = some o := e a o h n
theorem atI_of {α : Type} {xs : List α} {z : Int} (h0 : 0 ≤ z) (h1 : z < (xs.length : Int)) : ∃ x, atI xs z = some x ∧ xs[z.toNat]? = some x := by
  have hl : z.toNat < xs.length := by omega
  refine ⟨xs[z.toNat], ?_, List.getElem?_eq_getElem hl⟩
  unfold atI ixN
  rw [if_pos h0, if_pos h1]
  exact List.getElem?_eq_getElem hl
theorem atI_nn {α : Type} {xs : List α} {z : Int} {j : Nat} {x : α} (e : z = (j : Int)) (h : xs[j]? = some x) : atI xs z = some x := by rw [e]; exact atI_nat h
/-! ### data: their kinds, their sizes, being the smD -/
def isInt : PyData → Bool
  | .bool _ | .int _ => true
  | _ => false
def isBool : PyData → Bool
  | .bool _ => true
  | _ => false
def isStr : PyData → Bool
  | .str _ => true
  | _ => false
def isTup : PyData → Bool
  | .tuple _ => true
  | _ => false
def isLst : PyData → Bool
  | .list _ => true
  | _ => false
/-- at most n deep, nothing longer than 90000, no dict -/
def okD : Nat → PyData → Bool
  | _, .none | _, .bool _ | _, .int _ | _, .str _ => true
  | n + 1, .list xs | n + 1, .tuple xs => decide (xs.length ≤ 90000) && xs.all (okD n)
  | _, _ => false
theorem okD.mono : ∀ {n m : Nat} {d : PyData}, n ≤ m → okD n d = true → okD m d = true
  | _, _, .none, _, _ => by simp [okD]
  | _, _, .bool _, _, _ => by simp [okD]
  | _, _, .int _, _, _ => by simp [okD]
  | _, _, .str _, _, _ => by simp [okD]
  | 0, _, .list _, _, h => by simp [okD] at h
  | 0, _, .tuple _, _, h => by simp [okD] at h
  | 0, _, .dict _, _, h => by simp [okD] at h
  | _ + 1, _, .dict _, _, h => by simp [okD] at h
  | n + 1, 0, .list _, hl, _ => by omega
  | n + 1, 0, .tuple _, hl, _ => by omega
  | n + 1, m + 1, .list xs, hl, h => by
    simp only [okD, Bool.and_eq_true, List.all_eq_true] at h ⊢
    exact ⟨h.1, fun x hx => okD.mono (by omega) (h.2 x hx)⟩
  | n + 1, m + 1, .tuple xs, hl, h => by
    simp only [okD, Bool.and_eq_true, List.all_eq_true] at h ⊢
    exact ⟨h.1, fun x hx => okD.mono (by omega) (h.2 x hx)⟩
mutual
def smD : PyData → PyData → Bool
  | .none, .none => true
  | .bool a, .bool b => a == b
  | .int a, .int b => a == b
  | .str a, .str b => a == b
  | .list xs, .list ys => smAll xs ys
  | .tuple xs, .tuple ys => smAll xs ys
  | _, _ => false
def smAll : List PyData → List PyData → Bool
  | [], [] => true
  | x :: xs, y :: ys => smD x y && smAll xs ys
  | _, _ => false
end
mutual
theorem smD_refl : ∀ (n : Nat) (d : PyData), okD n d = true → smD d d = true
  | _, .none, _ => by simp [smD]
  | _, .bool a, _ => by simp [smD]
  | _, .int a, _ => by simp [smD]
  | _, .str a, _ => by simp [smD]
  | 0, .list xs, h => by simp [okD] at h
  | 0, .tuple xs, h => by simp [okD] at h
  | n + 1, .list xs, h => by
    simp only [okD, Bool.and_eq_true, List.all_eq_true] at h
    simp only [smD]; exact smAll_refl n xs h.2
  | n + 1, .tuple xs, h => by
    simp only [okD, Bool.and_eq_true, List.all_eq_true] at h
    simp only [smD]; exact smAll_refl n xs h.2
  | 0, .dict xs, h => by simp [okD] at h
  | _ + 1, .dict xs, h => by simp [okD] at h
theorem smAll_refl : ∀ (n : Nat) (ds : List PyData), (∀ d ∈ ds, okD n d = true) → smAll ds ds = true
  | _, [], _ => by simp [smAll]
  | n, d :: ds, h => by simp only [smAll, Bool.and_eq_true]; exact ⟨smD_refl n d (h d List.mem_cons_self), smAll_refl n ds fun x hx => h x (List.mem_cons_of_mem _ hx)⟩
end
theorem smAll_len : ∀ {xs ys : List PyData}, xs.length ≠ ys.length → smAll xs ys = false
  | [], [], h => by simp at h
  | [], _ :: _, _ => by simp [smAll]
  | _ :: _, [], _ => by simp [smAll]
  | x :: xs, y :: ys, h => by simp only [smAll, smAll_len (xs := xs) (ys := ys) (by simpa using h), Bool.and_false]
/-- the pairs that are unlike -/
theorem smAll_iff : ∀ {xs ys : List PyData}, xs.length = ys.length → (smAll xs ys = true ↔ ∀ (i : Nat) (x y : PyData), xs[i]? = some x → ys[i]? = some y → smD x y = true)
  | [], [], _ => by simp [smAll]
  | [], _ :: _, h => by simp at h
  | _ :: _, [], h => by simp at h
  | x :: xs, y :: ys, h => by
    simp only [smAll, Bool.and_eq_true]
    rw [smAll_iff (xs := xs) (ys := ys) (by simpa using h)]
    constructor
    · rintro ⟨h1, h2⟩ i a b ha hb
      cases i with
      | zero => simp at ha hb; subst ha; subst hb; exact h1
      | succ i => exact h2 i a b (by simpa using ha) (by simpa using hb)
    · intro g
      exact ⟨g 0 x y rfl rfl, fun i a b ha hb => g (i + 1) a b (by simpa using ha) (by simpa using hb)⟩
/-! ### isinstance of data -/
def tyN : PyData → String
  | .none => "NoneType"
  | .bool _ => "bool"
  | .int _ => "int"
  | .str _ => "str"
  | .list _ => "list"
  | .tuple _ => "tuple"
  | .dict _ => "dict"
section
variable {K : PySem.W.Frag} {M : List Addr} {H : Hp} {Q : VK} {v : V} {d : PyData}
theorem Dv.ty (h : Dv M H v d) : TyX K H v (.type (tyN d)) := by
  cases h with
  | non => exact .base .non
  | bl b => exact .base (.bl b)
  | int i => exact .base (.int i)
  | str x => exact .base (.str x)
  | lst h n l t => exact .base (.lst h)
  | tup h l t => exact .base (.tup h)
theorem Dv.nodict (h : Dv M H v d) : ∀ kvs, d ≠ .dict kvs := by cases h <;> simp
theorem r_isiInt (h : Dv M H v d) (q : Q (.bl (isInt d)) H) : rIsi K [v, .ty "int"] H Q := by
  refine ⟨v, _, _, _, isInt d, rfl, .ty _, h.ty, kit_ty ?_, q⟩
  have := h.nodict
  cases d <;> first | exact absurd rfl (this _) | (simp only [tyN, isInt, isBool, isStr, isTup, isLst]; decide +kernel)
theorem r_isiBool (h : Dv M H v d) (q : Q (.bl (isBool d)) H) : rIsi K [v, .ty "bool"] H Q := by
  refine ⟨v, _, _, _, isBool d, rfl, .ty _, h.ty, kit_ty ?_, q⟩
  have := h.nodict
  cases d <;> first | exact absurd rfl (this _) | (simp only [tyN, isInt, isBool, isStr, isTup, isLst]; decide +kernel)
theorem r_isiStr (h : Dv M H v d) (q : Q (.bl (isStr d)) H) : rIsi K [v, .ty "str"] H Q := by
  refine ⟨v, _, _, _, isStr d, rfl, .ty _, h.ty, kit_ty ?_, q⟩
  have := h.nodict
  cases d <;> first | exact absurd rfl (this _) | (simp only [tyN, isInt, isBool, isStr, isTup, isLst]; decide +kernel)
theorem r_isiTup (h : Dv M H v d) (q : Q (.bl (isTup d)) H) : rIsi K [v, .ty "tuple"] H Q := by
  refine ⟨v, _, _, _, isTup d, rfl, .ty _, h.ty, kit_ty ?_, q⟩
  have := h.nodict
  cases d <;> first | exact absurd rfl (this _) | (simp only [tyN, isInt, isBool, isStr, isTup, isLst]; decide +kernel)
theorem r_isiLst (h : Dv M H v d) (q : Q (.bl (isLst d)) H) : rIsi K [v, .ty "list"] H Q := by
  refine ⟨v, _, _, _, isLst d, rfl, .ty _, h.ty, kit_ty ?_, q⟩
  have := h.nodict
  cases d <;> first | exact absurd rfl (this _) | (simp only [tyN, isInt, isBool, isStr, isTup, isLst]; decide +kernel)
theorem r_isiTL {p : Addr} (hp : H p = some (.tup [.ty "tuple", .ty "list"])) (h : Dv M H v d) (q : Q (.bl (isTup d || isLst d)) H) : rIsiT K [v, .ref p] H Q := by
  have n := h.nodict
  have h1 : PySem.W.kitOne K (.type (tyN d)) (.type "tuple") = some (isTup d) := kit_ty (by cases d <;> first | exact absurd rfl (n _) | (simp only [tyN, isTup, isLst]; decide +kernel))
  have h2 : PySem.W.kitOne K (.type (tyN d)) (.type "list") = some (isLst d) := kit_ty (by cases d <;> first | exact absurd rfl (n _) | (simp only [tyN, isTup, isLst]; decide +kernel))
  refine ⟨v, p, _, _, [.type "tuple", .type "list"], _, rfl, hp, .cons (.ty _) (.cons (.ty _) .nil), h.ty, kitAny_cons (r := isTup d || isLst d) h1 (fun e => ?_) (fun e => by rw [e]; rfl), q⟩
  rw [e, Bool.false_or]
  exact kitAny_cons h2 (fun e => by rw [e]; exact kitAny_nil) fun e => e
end
/-! ### comprehensions over zip -/
section
variable {K : PySem.W.Frag} {σ : L2.St} {H : Hp} {v : V} {tt : TT} {te : TE} {g : TG} {vs : List Nat} {Q : VK}
theorem lcZL {a b : Addr} {xs ys : List V} (hz : xs.length = ys.length) (P : Nat → List V → Addr → Hp → Prop) (h0 : ∀ D H2, H D = none → Ex H H2 → H2 D = some (.lst []) → P 0 [] D H2) (hl : ∀ i acc D H', i ≤ xs.length → P i acc D H' → SqL K H' a xs ∧ SqL K H' b ys)
    (hs : ∀ i x y acc D H' T H2, xs[i]? = some x → ys[i]? = some y → acc.length ≤ i → H D = none → H2 D = some (.lst acc) → P i acc D H' → Ex H' H2 → H2 T = some (.tup [x, y]) → g (.ref T) (wipe σ vs) H2 (kTurn tt te vs P D i σ))
    (hd : ∀ acc D H', acc.length ≤ xs.length → H D = none → H' D = some (.lst acc) → P xs.length acc D H' → Q (.ref D) H') : LcW (Itz K a b) g tt te vs σ Q H := by
  intro D hD
  refine ⟨fun i m H' => m = xs.length - i ∧ i ≤ xs.length ∧ Pc P D i H', ⟨xs.length, by simp, Nat.zero_le _, [], Nat.le_refl _, upd_same, h0 D _ hD (Ex.new hD) upd_same⟩, ?_⟩
  rintro i m H' ⟨rfl, hi, acc, h1, h2, p⟩
  obtain ⟨q1, q2⟩ := hl i acc D H' hi p
  by_cases hlt : i < xs.length
  · have hx : xs[i]? = some xs[i] := List.getElem?_eq_getElem hlt
    have hlt2 : i < ys.length := by omega
    have hy : ys[i]? = some ys[i] := List.getElem?_eq_getElem hlt2
    refine .inr ⟨⟨xs, ys, _, _, q1, q2, hx, hy⟩, Pc P D (i + 1), fun H'' p' => ⟨xs.length - (i + 1), by omega, rfl, hlt, p'⟩, fun w H'' y => ?_⟩
    obtain ⟨T, x', y', rfl, hT, rfl, f1, f2⟩ := y
    exact hs i x' y' acc D H' T _ (f1 xs q1) (f2 ys q2) h1 hD (Ex.at (Ex.new hT) h2) p (Ex.new hT) upd_same
  · have e : i = xs.length := by omega
    subst e
    exact .inl ⟨⟨xs, ys, q1, q2, Or.inl (Nat.le_refl _)⟩, hd acc D H' h1 hD h2 p⟩
theorem lcZT {a b : Addr} {xs ys : List V} (hz : xs.length = ys.length) (P : Nat → List V → Addr → Hp → Prop) (h0 : ∀ D H2, H D = none → Ex H H2 → H2 D = some (.lst []) → P 0 [] D H2) (hl : ∀ i acc D H', i ≤ xs.length → P i acc D H' → SqT K H' a xs ∧ SqT K H' b ys)
    (hs : ∀ i x y acc D H' T H2, xs[i]? = some x → ys[i]? = some y → acc.length ≤ i → H D = none → H2 D = some (.lst acc) → P i acc D H' → Ex H' H2 → H2 T = some (.tup [x, y]) → g (.ref T) (wipe σ vs) H2 (kTurn tt te vs P D i σ))
    (hd : ∀ acc D H', acc.length ≤ xs.length → H D = none → H' D = some (.lst acc) → P xs.length acc D H' → Q (.ref D) H') : LcW (RZ.ItzT K a b) g tt te vs σ Q H := by
  intro D hD
  refine ⟨fun i m H' => m = xs.length - i ∧ i ≤ xs.length ∧ Pc P D i H', ⟨xs.length, by simp, Nat.zero_le _, [], Nat.le_refl _, upd_same, h0 D _ hD (Ex.new hD) upd_same⟩, ?_⟩
  rintro i m H' ⟨rfl, hi, acc, h1, h2, p⟩
  obtain ⟨q1, q2⟩ := hl i acc D H' hi p
  by_cases hlt : i < xs.length
  · have hx : xs[i]? = some xs[i] := List.getElem?_eq_getElem hlt
    have hlt2 : i < ys.length := by omega
    have hy : ys[i]? = some ys[i] := List.getElem?_eq_getElem hlt2
    refine .inr ⟨⟨xs, ys, _, _, q1, q2, hx, hy⟩, Pc P D (i + 1), fun H'' p' => ⟨xs.length - (i + 1), by omega, rfl, hlt, p'⟩, fun w H'' y => ?_⟩
    obtain ⟨T, x', y', rfl, hT, rfl, f1, f2⟩ := y
    exact hs i x' y' acc D H' T _ (f1 xs q1) (f2 ys q2) h1 hD (Ex.at (Ex.new hT) h2) p (Ex.new hT) upd_same
  · have e : i = xs.length := by omega
    subst e
    exact .inl ⟨⟨xs, ys, q1, q2, Or.inl (Nat.le_refl _)⟩, hd acc D H' h1 hD h2 p⟩
def aLcZ (K : PySem.W.Frag) (g : TG) (tt : TT) (te : TE) (vs : List Nat) (σ : L2.St) (Q : VK) : List V → Hp → Prop := fun us H1 => ∃ a b xs ys, us = [.ref a, .ref b] ∧ ((SqL K H1 a xs ∧ SqL K H1 b ys ∧ LcW (Itz K a b) g tt te vs σ Q H1) ∨ (SqT K H1 a xs ∧ SqT K H1 b ys ∧ LcW (RZ.ItzT K a b) g tt te vs σ Q H1))
theorem w_lcZ {a : TA} (h : a σ H (aLcZ K g tt te vs σ Q)) : tLc (RZ.iZipA K a) g tt te vs σ H Q := h
end
theorem small4000 {z : Int} (h : z.natAbs < 2 ^ 64) : z.natAbs < 2 ^ 4000 := Nat.lt_of_lt_of_le h (Nat.pow_le_pow_right (by decide) (by decide))
theorem cut_to {xs : List V} {k : Nat} : cutV xs none (some (k : Int)) = xs.take k := by
  unfold cutV
  rw [HT.sIx_none, HT.sIx_nat, List.drop_zero, Nat.sub_zero, Nat.min_def]
  split
  · rfl
  · rw [List.take_of_length_le (Nat.le_refl _), List.take_of_length_le (by omega)]
theorem take_more {α : Type} {l : List α} {i : Nat} {x : α} (h : l[i]? = some x) : l.take (i + 1) = l.take i ++ [x] := by
  rw [List.take_add_one, h]; rfl
theorem map_some {α β : Type} {f : α → β} {l : List α} {i : Nat} {y : β} (h : (l.map f)[i]? = some y) : ∃ x, l[i]? = some x ∧ y = f x := by
  rw [List.getElem?_map] at h
  cases e : l[i]? with
  | none => rw [e] at h; cases h
  | some x => rw [e] at h; exact ⟨x, rfl, (Option.some.inj h).symm⟩
/-! ### what the law's helpers promise -/
def spDraw (K : PySem.W.Frag) : Sp := fun vs H Q _ => ∃ (a : Addr) (ns : List Int) (salt : Int), vs = [.ref a, .int salt] ∧ SqL K H a (ns.map V.int) ∧ ns.length ≤ 63 ∧ 0 ≤ salt ∧ salt ≤ 1000 ∧
  ∀ (D L : Addr) (H' : Hp), Ex H H' → Deal H' D L → Q (.ref D) H'

def spOf : Sp := fun vs H Q _ => ∃ (D L p : Addr) (xs : List V), vs = [.ref D, .ref p] ∧ Deal H D L ∧ H p = some (.lst xs) ∧ p ≠ D ∧ p ≠ L ∧ 0 < xs.length ∧ xs.length ≤ 90000 ∧
  ∀ (i : Nat) (x : V) (H' : Hp), xs[i]? = some x → Deal H' D L → Kp [D, L] H H' → Q x H'
def spSame : Nat → Sp
  | 0 => fun _ _ _ _ => False
  | n + 1 => fun vs H Q _ => ∃ (M : List Addr) (v u : V) (d e : PyData), vs = [v, u] ∧ Dv M H v d ∧ Dv M H u e ∧ okD n d = true ∧ ∀ H', Ex H H' → Q (.bl (smD d e)) H'
theorem same_seq {d e : PyData} (h1 : (isTup d || isLst d) = true) (h2 : (isTup e || isLst e) = true) (h3 : isTup e = isTup d) : (∃ xs ys, d = .tuple xs ∧ e = .tuple ys) ∨ ∃ xs ys, d = .list xs ∧ e = .list ys := by
  cases d <;> cases e <;> simp [isTup, isLst] at h1 h2 h3 ⊢
theorem same_no {d e : PyData} (h2 : (isTup e || isLst e) = true) (h3 : isTup e ≠ isTup d ∨ (isTup d || isLst d) = false) : smD d e = false := by
  cases d <;> cases e <;> simp [isTup, isLst, smD] at h2 h3 ⊢
theorem if_dt {b : Bool} {A B : Prop} (e : b = true) (h : A) : if b = true then A else B := by rw [e]; exact if_pos' h
theorem if_df {b : Bool} {A B : Prop} (e : b = false) (h : B) : if b = true then A else B := by rw [e]; exact if_neg' h
theorem Dv.tup_inv {M : List Addr} {H : Hp} {v : V} {ds : List PyData} (h : Dv M H v (.tuple ds)) : ∃ a xs, v = .ref a ∧ H a = some (.tup xs) ∧ xs.length = ds.length ∧ ∀ (i : Nat) (x : V) (d : PyData), xs[i]? = some x → ds[i]? = some d → Dv M H x d := by
  cases h with
  | tup h l t => exact ⟨_, _, rfl, h, l, t⟩
theorem Dv.lst_inv {M : List Addr} {H : Hp} {v : V} {ds : List PyData} (h : Dv M H v (.list ds)) : ∃ a xs, v = .ref a ∧ H a = some (.lst xs) ∧ a ∉ M ∧ xs.length = ds.length ∧ ∀ (i : Nat) (x : V) (d : PyData), xs[i]? = some x → ds[i]? = some d → Dv M H x d := by
  cases h with
  | lst h n l t => exact ⟨_, _, rfl, h, n, l, t⟩
theorem get_of_len {α β : Type} {xs : List α} {ys : List β} {i : Nat} {x : α} (l : xs.length = ys.length) (h : xs[i]? = some x) : ∃ y, ys[i]? = some y := by
  have := (List.getElem?_eq_some_iff.mp h).1
  exact ⟨ys[i]'(by omega), List.getElem?_eq_getElem _⟩
end BkG
namespace PySem
namespace BkEnum
open Sem (wp)
open AutoSeq1 (wpAny_loadPart')
theorem meets_newT (l : Addr) (items : Array Value) (n : Nat) (dct : Option Addr) (sl : Array (Option Value)) :
    Meets (Builtin.«enumerate.__new__» ⟨[.type "enumerate", .ref l], []⟩) (fun _ R s => s.heap.get? l = some { cls := .type "tuple", dict := dct, data := .seq items n, slots := sl } ∧
      R (.ok (.ret (.ref (s.heap.push { cls := .type "tuple_iterator", data := .fields #[.ref l, .int 0 0] }).objs.size)))
        { s with heap := (s.heap.push { cls := .type "tuple_iterator", data := .fields #[.ref l, .int 0 0] }).push { cls := .type "enumerate", data := .fields #[.none, .bool false, .ref s.heap.objs.size, rawInt 0, .none, .none] } }) :=
  .of_wp fun prog w A R s h => by
    obtain ⟨hp, g, d, tk, os⟩ := s; obtain ⟨hl, h⟩ := h
    have hsub := sub_enumerate
    have hL : Heap.IsTuple (Shared.heap ⟨hp, g, d, tk, os⟩) l items := ⟨_, hl, rfl, n, rfl⟩
    wp_walk using wpAny_loadPart' hl
    refine wpAny_stack_any fun st => wpAny_pure ?_
    split
    · rename_i c _ _ _ _ _
      cases (c == Value.type "enumerate")
      · wp_walk using wpAny_loadPart' hl, wpAny_pyIter_tuple hL
        exact ⟨_, rfl, h⟩
      · wp_walk using wpAny_loadPart' hl, wpAny_pyIter_tuple hL
        exact ⟨_, rfl, h⟩
    · wp_walk using wpAny_loadPart' hl, wpAny_pyIter_tuple hL
      exact ⟨_, rfl, h⟩
theorem call_tuple {prog : Program} {w : World} {A : Around} {E : Value → Shared → Prop} {s : Shared} {l : Addr} {items : Array Value} {Q : Value → Shared → Prop} (hL : s.heap.IsTuple l items)
    (h : ∀ h', IsEnum h' (s.heap.objs.size + 1) s.heap.objs.size 0 .none → h'.IsTupleIter s.heap.objs.size l 0 → h'.objs.size = s.heap.objs.size + 2 →
      (∀ b o, s.heap.get? b = some o → h'.get? b = some o) → Q (.ref (s.heap.objs.size + 1)) { s with heap := h' }) :
    wpAny (model prog w) A (call (.type "enumerate") [.ref l]) Q E s := by
  obtain ⟨⟨c, dct, dt, sl⟩, hl, hc, n, hd⟩ := hL
  replace hc : c = .type "tuple" := hc
  replace hd : dt = .seq items n := hd
  subst hc hd
  refine callType_new F.called_enumerate (by decide) (F.typeCall_enumerate_1 _) (F.newCall_enumerate_1 _) (fun obj => F.args_object_init_2 obj _) F.entry_enumerate_new
    (meets_newT l items n dct sl) ⟨hl, ?_⟩
  have hz : (s.heap.push { cls := .type "tuple_iterator", data := .fields #[.ref l, .int 0 0] }).objs.size = s.heap.objs.size + 1 := Heap.size_push ..
  show _ ∧ _
  rw [hz]
  have he : IsEnum ((s.heap.push { cls := .type "tuple_iterator", data := .fields #[.ref l, .int 0 0] }).push
      { cls := .type "enumerate", data := .fields #[.none, .bool false, .ref s.heap.objs.size, rawInt 0, .none, .none] }) (s.heap.objs.size + 1) s.heap.objs.size 0 .none := by
    have := Heap.get?_push_size (s.heap.push { cls := .type "tuple_iterator", data := .fields #[.ref l, .int 0 0] })
      (o := { cls := .type "enumerate", data := .fields #[.none, .bool false, .ref s.heap.objs.size, rawInt 0, .none, .none] }) rfl
    rw [hz] at this; exact this
  refine ⟨⟨_, he, rfl⟩, h _ he ⟨_, Heap.get?_push_of_some _ (Heap.get?_push_size _ rfl), rfl, rfl⟩ (by rw [Heap.size_push, hz]) fun b o x => Heap.get?_push_of_some _ (Heap.get?_push_of_some _ x)⟩
end BkEnum
end PySem
namespace BkG
open PySem PySem.Spec PyProof.Rows L2
/-- the tuple at a as it stands at each turn, the items behind their numbers -/
def IteT (K : PySem.W.Frag) (a : Addr) : It :=
  ⟨fun i H => ∃ (xs : List V) (x : V), SqT K H a xs ∧ xs[i]? = some x,
    fun i H v H' => ∃ T x, v = .ref T ∧ H T = none ∧ H' = upd H T (.tup [.int (i : Nat), x]) ∧ (∀ xs, SqT K H a xs → xs[i]? = some x),
    fun i H => ∃ xs : List V, SqT K H a xs ∧ xs.length ≤ i⟩
theorem turn_enumT {P : Program} {w : World} {K : PySem.W.Frag} {elts : List Expr} {kk : Nat} {tpos : Pos} (a e it : Addr) :
    Turn P w K (.Tuple elts kk tpos) (IteT K a) [e, it] e (fun i h => (∃ old, IsEnum h e it ((i : Nat) : Int) old) ∧ h.IsTupleIter it a i ∧ e ≠ it ∧ a ≠ it ∧ a ≠ e) where
  mem := by simp
  obj := fun i h st b hb => by
    obtain ⟨⟨old, he⟩, ⟨o, ho, hc, hd⟩, _⟩ := st
    have e' : b = e ∨ b = it := by simpa using hb
    rcases e' with z | z
    · rw [z]; exact ⟨_, he, fun v q => nomatch q⟩
    · rw [z]; exact ⟨o, ho, fun v q => by rw [hd] at q; cases q⟩
  keep := fun i h h' st k => let ⟨⟨old, he⟩, hi, hne⟩ := st; ⟨⟨old, k e (by simp) _ he⟩, hi.at fun o q => k it (by simp) o q, hne⟩
  item := by
    intro X hP hw hK hc i pins s σ H E I hf st hg
    subst hP hw hK
    obtain ⟨⟨old, he⟩, hit, hne, hai, hae⟩ := st
    obtain ⟨xs, x, hq, hx⟩ := hg
    obtain ⟨its, rv, p, hz⟩ := I.tuple hq
    obtain ⟨u, hu, ru⟩ := rv.get hx
    have hel : e < s.heap.objs.size := Heap.lt_size he
    have hil : it < s.heap.objs.size := by obtain ⟨_, q, _⟩ := hit; exact Heap.lt_size q
    have hlt : i < its.toArray.size := by
      have h := (List.getElem?_eq_some_iff.mp hu).1
      simpa using h
    refine wpAny_pyNext_enum_itemD (Draws.tuple (show X.A.in1.handled = none from I.ok.hd hc) it a hai its.toArray) he ⟨hit, p⟩ hlt hne (by simp [hne, Ne.symm hae]) fun y h' tk hy ho st' hT hsz hk => ?_
    have ey : y = u := by
      have h1 : its.toArray[i]? = some y := hy
      have h2 : its.toArray[i]? = some u := by simpa using hu
      rw [h2] at h1; exact (Option.some.inj h1).symm
    subst ey
    refine ⟨_, rfl, wpAny_letOwnedTupleGo_enum (s := { s with heap := h', toks := tk + 1 }) ho fun h'' he' sb => ?_⟩
    have hT2 : h''.get? s.heap.objs.size = some { cls := .type "tuple", data := .seq #[.int i tk, y] } := (sb.2 _ (Nat.ne_of_gt hel)).trans hT
    have new : ObjOk X.prog X.w (upd H s.heap.objs.size (.tup [.int (i : Nat), x])) h'' s.heap.objs.size (.tup [.int (i : Nat), x]) :=
      ⟨by show 2 ≤ sizeLine; decide, [.int i tk, y], .cons ⟨_, rfl⟩ (.cons ru .nil), ⟨_, hT2, rfl, _, rfl⟩⟩
    have I1 : Inv X pins σ (upd H s.heap.objs.size (.tup [.int (i : Nat), x])) { s with heap := h'', toks := tk + 1 } :=
      I.turnedNew (ch := [e, it]) (fun b ob hb q => (sb.2 b (fun z => hb (by simp [z]))).trans (hk b ob (fun z => hb (by simp [z])) (fun z => hb (by simp [z])) q)) hf (Nat.le_refl _) new
    refine ⟨.ref s.heap.objs.size, _, I1, rfl, ⟨_, x, rfl, I.hok.fresh (Nat.le_refl _), rfl, fun ys hy => by rw [I.tuple_inj hy hq]; exact hx⟩, ⟨⟨y, ?_⟩, st'.1.at fun o q => (sb.2 it (Ne.symm hne)).trans q, hne, hai, hae⟩, fun b hb => ?_⟩
    · have e1 : ((i + 1 : Nat) : Int) = (i : Int) + 1 := by omega
      rw [e1]; exact he'
    · have hb' : b < s.heap.objs.size := by
        have e' : b = e ∨ b = it := by simpa using hb
        rcases e' with z | z
        · rw [z]; exact hel
        · rw [z]; exact hil
      rw [upd_ne (Nat.ne_of_lt hb')]
      exact (hf b hb).1
  done := by
    intro X hP hw hK hc i pins s σ H E I hf st hg
    subst hP hw hK
    obtain ⟨⟨old, he⟩, hit, hne, hai, hae⟩ := st
    obtain ⟨xs, hq, hx⟩ := hg
    obtain ⟨its, rv, p, hz⟩ := I.tuple hq
    obtain ⟨f0, f1, f2, f3, f4, f5⟩ := hf it (by simp)
    have hl := rv.length
    have hh : X.A.in1.handled = none := I.ok.hd hc
    unfold pyNext
    have hT : s.TypeIs (.ref e) "enumerate" := ⟨_, he, rfl⟩
    refine wpAny_bind (wpAny_attempt (wpAny_callSpecial?_slot (name := Str.ofString "__next__") hT F.slot_enumerate_next
      (wpAny_call_entry F.slot_enumerate_next hT F.entry_enumerate_next ?_ (F.args_enumerate_next_1 _))))
    show wpAny _ _ (field (.ref e) 2 >>= _) _ _ _
    refine wpAny_bind (wpAny_field he rfl (x := .ref it) rfl ?_)
    refine wpAny_bind (wpAny_nextOf_tuple_end hh hit (show s.heap.IsTuple a its.toArray from p) (by simp; omega) fun h' x he' hx' => ?_)
    obtain ⟨o, ho, hc'⟩ := hx'
    refine wpAny_bind (wpAny_isInstance (T := "StopIteration") (b := true) ⟨o, ho, hc'⟩ isSubtype_stop ?_)
    exact wpAny_pure ⟨rfl, I.turned (t' := s.toks) (fun b o hb q => he' b o hb q) f0 f1 f3 f4 f5⟩
  self := fun A i s Q E st h => let ⟨⟨_, he⟩, _⟩ := st; wpAny_pyIter_enum he h
def iEnumT (K : PySem.W.Frag) (ta : TA) : TI := fun σ H R => ta σ H fun vs H1 => ∃ a xs, vs = [.ref a] ∧ SqT K H1 a xs ∧ R (IteT K a) H1
theorem pi_enumT {X : Cx} {e : Expr} {ta : TA} {p pos tpos : Pos} {elts : List Expr} {kk : Nat} (hg : Gl X "enumerate") (hm : X.mg "enumerate" = none) (ha : PA X [e] ta) (hs : starEach [e] X.env = [(false, eval e X.env)] := by rfl) :
    PI X (.Tuple elts kk tpos) (.Call (.Name "enumerate" p) [e] [] pos) (iEnumT X.K ta) := by
  refine ⟨fun pins s σ H R I h => ?_⟩
  refine Call_ (ld_blt I hg hm boot_enumerate (PyProof.Rows.callWith_type1 (thn (ha.run pos pins s σ H _ I h) fun us s1 ⟨vs, H1, I1, r1, q1⟩ => ?_) hs rfl))
  obtain ⟨a, xs, ex, hq, q⟩ := q1
  subst ex
  cases r1 with
  | cons r rr =>
    cases rr
    cases r
    obtain ⟨its, rv, p', hz⟩ := I1.tuple hq
    refine PySem.BkEnum.call_tuple (show s1.heap.IsTuple a its.toArray from p') fun h' he hit hsz hk => wpAny_pyIter_enum he ?_
    have I2 : Inv X pins σ H1 { s1 with heap := h' } := I1.kept (t' := s1.toks) hk
    have hal : a < s1.heap.objs.size := p'.lt
    refine ⟨s1.heap.objs.size + 1, [s1.heap.objs.size + 1, s1.heap.objs.size], _, _, H1, rfl, I2, turn_enumT a (s1.heap.objs.size + 1) s1.heap.objs.size, ⟨⟨.none, he⟩, hit, Nat.succ_ne_self _, Nat.ne_of_lt hal, Nat.ne_of_lt (Nat.lt_succ_of_lt hal)⟩, fun b hb => ?_, q⟩
    have e' : b = s1.heap.objs.size + 1 ∨ b = s1.heap.objs.size := by simpa using hb
    have hle : s1.heap.objs.size ≤ b := by
      rcases e' with z | z
      · rw [z]; exact Nat.le_add_right _ _
      · rw [z]; exact Nat.le_refl _
    exact I1.fpOk hle (I1.hok.fresh hle)
section
variable {K : PySem.W.Frag} {σ : L2.St} {H : Hp} {t : TS} {f bk ct : L2.St → Hp → Prop} {rt : VK} {g : TG}
/-- enumerate(a tuple) -/
def aEnumT (K : PySem.W.Frag) (g : TG) (tb : TS) (D : Ends) (σ : L2.St) : List V → Hp → Prop := fun vs H1 => ∃ a xs, vs = [.ref a] ∧ SqT K H1 a xs ∧ ∃ W : Nat → Nat → L2.St → Hp → Prop, (∃ m, W 0 m σ H1) ∧ ∀ i m σ H, W i m σ H →
  ((IteT K a).stop i H ∧ D.nx σ H) ∨ ((IteT K a).go i H ∧ ∃ N : L2.St → Hp → Prop, (∀ σ' H', N σ' H' → ∃ m', m' < m ∧ W (i + 1) m' σ' H') ∧ ∀ x H', (IteT K a).yld i H x H' → g x σ H' fun σ2 H2 => tb { D with nx := N, ct := N, bk := D.nx } σ2 H2)
theorem w_forET {a : TA} (h : a σ H (aEnumT K g t ⟨f, rt, bk, ct⟩ σ)) : tFor (iEnumT K a) g t ⟨f, rt, bk, ct⟩ σ H := h
theorem a_enumT {a : Addr} {xs : List V} (h : SqT K H a xs) (Pv : Nat → L2.St → Hp → Prop) (h0 : Pv 0 σ H) (hl : ∀ i σ' H', i ≤ xs.length → Pv i σ' H' → SqT K H' a xs)
    (hs : ∀ i x σ' H' T H2, xs[i]? = some x → Pv i σ' H' → H' T = none → Ex H' H2 → H2 T = some (.tup [.int (i : Int), x]) → g (.ref T) σ' H2 fun σ2 H2 => t ⟨Pv (i + 1), rt, f, Pv (i + 1)⟩ σ2 H2) (hd : ∀ σ' H', Pv xs.length σ' H' → f σ' H') :
    aEnumT K g t ⟨f, rt, bk, ct⟩ σ [.ref a] H := by
  refine ⟨a, xs, rfl, h, fun i m σ H => m = xs.length - i ∧ i ≤ xs.length ∧ Pv i σ H, ⟨xs.length, by simp, Nat.zero_le _, h0⟩, ?_⟩
  rintro i m σ H ⟨rfl, hi, p⟩
  have q := hl i σ H hi p
  by_cases hlt : i < xs.length
  · have hx : xs[i]? = some xs[i] := List.getElem?_eq_getElem hlt
    refine .inr ⟨⟨xs, _, q, hx⟩, Pv (i + 1), fun σ' H' p' => ⟨xs.length - (i + 1), by omega, rfl, hlt, p'⟩, fun v H' y => ?_⟩
    obtain ⟨T, x', rfl, hT, rfl, f1⟩ := y
    exact hs i x' σ H T _ (f1 xs q) p hT (Ex.new hT) upd_same
  · have e : i = xs.length := by omega
    subst e
    exact .inl ⟨⟨xs, q, Nat.le_refl _⟩, hd σ H p⟩
end
end BkG
namespace BkG
open PySem PySem.Spec L2
/-! ### words: what the program's words do, as numbers -/
def isIntg : PyData → Bool
  | .int _ => true
  | _ => false
def isWid : PyData → Bool
  | .int n => decide (1 ≤ n ∧ n ≤ 64)
  | _ => false
def isWord (w : Nat) : PyData → Bool
  | .int n => decide (0 ≤ n ∧ n < 2 ^ w)
  | _ => false
def Wd (w : Nat) (a : Int) : Prop := 0 ≤ a ∧ a < 2 ^ w
theorem pow_pos' (w : Nat) : (0 : Int) < 2 ^ w := by
  have h : (0 : Int) < ((2 ^ w : Nat) : Int) := by exact_mod_cast Nat.pow_pos (by decide)
  simpa using h
theorem pow_cast (w : Nat) : ((2 ^ w : Nat) : Int) = (2 : Int) ^ w := by simp
theorem Wd.mod (w : Nat) (a : Int) : Wd w (a % 2 ^ w) := ⟨Int.emod_nonneg _ (Int.ne_of_gt (pow_pos' w)), Int.emod_lt_of_pos _ (pow_pos' w)⟩
theorem Wd.small {w : Nat} {a : Int} (h : Wd w a) (hw : w ≤ 64) : a.natAbs < 2 ^ 64 := by
  have h1 : (2 : Int) ^ w ≤ 2 ^ 64 := by
    rw [← pow_cast, ← pow_cast]
    exact_mod_cast Nat.pow_le_pow_right (by decide) hw
  have := h.1
  have := h.2
  have e : (2 : Int) ^ 64 = ((2 ^ 64 : Nat) : Int) := by simp
  omega
theorem shl_ok {w : Nat} (hw : w ≤ 64) : CPow 1 (w : Int) := ⟨by omega, by omega, by decide⟩
/-- the word that undoes -/
def backOf (w : Nat) (n : Int) : Nat → Int
  | 0 => 1
  | k + 1 => (backOf w n k) * (2 - n * (backOf w n k)) % 2 ^ w
theorem backOf_wd {w : Nat} {n : Int} (hw : 1 ≤ w) : ∀ k, Wd w (backOf w n k)
  | 0 => by
    refine ⟨(by decide : (0 : Int) ≤ 1), ?_⟩
    show (1 : Int) < 2 ^ w
    have h : (2 : Int) ^ 1 ≤ 2 ^ w := by
      rw [← pow_cast, ← pow_cast]
      exact_mod_cast Nat.pow_le_pow_right (by decide) hw
    have e : (2 : Int) ^ 1 = 2 := by decide
    omega
  | k + 1 => Wd.mod w _
/-- after k turns it undoes n as far as k + 1 bits -/
theorem backOf_ok {w : Nat} {n : Int} (hn : n % 2 ≠ 0) : ∀ k, k + 1 ≤ w → ((2 : Int) ^ (k + 1)) ∣ (backOf w n k) * n - 1
  | 0, _ => by
    show (2 : Int) ^ 1 ∣ 1 * n - 1
    have e : (2 : Int) ^ 1 = 2 := by decide
    rw [e]; omega
  | k + 1, hk => by
    obtain ⟨c, hc⟩ := backOf_ok (w := w) hn k (by omega)
    have hm : backOf w n (k + 1) = (backOf w n k) * (2 - n * (backOf w n k)) % 2 ^ w := rfl
    obtain ⟨q, hq⟩ : ∃ q, backOf w n (k + 1) = (backOf w n k) * (2 - n * (backOf w n k)) - 2 ^ w * q := ⟨((backOf w n k) * (2 - n * (backOf w n k))) / 2 ^ w, by rw [hm, Int.emod_def]⟩
    rw [hq]
    generalize backOf w n k = f at *
    have e1 : (f * (2 - n * f) - 2 ^ w * q) * n - 1 = -((f * n - 1) * (f * n - 1)) - 2 ^ w * (q * n) := by
      rw [Int.sub_mul, Int.mul_sub, Int.sub_mul, Int.sub_mul, Int.mul_sub, Int.mul_sub]
      have a1 : f * 2 * n = 2 * (f * n) := by rw [Int.mul_comm f 2, Int.mul_assoc]
      have a2 : f * (n * f) * n = f * n * (f * n) := by rw [Int.mul_assoc f (n * f) n, Int.mul_assoc n f n, ← Int.mul_assoc f n (f * n)]
      have a3 : 2 ^ w * q * n = 2 ^ w * (q * n) := Int.mul_assoc _ _ _
      rw [a1, a2, a3]
      omega
    rw [e1, hc]
    have d1 : ((2 : Int) ^ (k + 1 + 1)) ∣ 2 ^ (k + 1) * c * (2 ^ (k + 1) * c) := by
      have : (2 : Int) ^ (k + 1) * c * (2 ^ (k + 1) * c) = 2 ^ (k + 1 + 1) * (2 ^ k * (c * c)) := by
        rw [Int.pow_succ (n := k + 1), Int.mul_assoc, Int.mul_left_comm c, ← Int.mul_assoc, ← Int.mul_assoc]
        rw [Int.pow_succ (n := k)]
        simp only [Int.mul_assoc, Int.mul_left_comm, Int.mul_comm]
      rw [this]; exact Int.dvd_mul_right _ _
    have d2 : ((2 : Int) ^ (k + 1 + 1)) ∣ 2 ^ w * (q * n) := by
      obtain ⟨r, hr⟩ : ∃ r, w = (k + 1 + 1) + r := ⟨w - (k + 1 + 1), by omega⟩
      rw [hr, Int.pow_add (n := r), Int.mul_assoc]
      exact Int.dvd_mul_right _ _
    exact Int.dvd_sub (Int.dvd_neg.mpr d1) d2
/-! ### what the program's words promise (nothing refused) -/
def spIntg : Sp := fun vs H Q _ => ∃ M v d, vs = [v] ∧ Dv M H v d ∧ Q (.bl (isIntg d)) H
def spWid : Sp := fun vs H Q _ => ∃ M v d, vs = [v] ∧ Dv M H v d ∧ Q (.bl (isWid d)) H
def spWordOf : Sp := fun vs H Q _ => ∃ (M : List Addr) (v : V) (d : PyData) (w : Nat), vs = [v, .int w] ∧ 1 ≤ w ∧ w ≤ 64 ∧ Dv M H v d ∧ Q (.bl (isWord w d)) H
def spChkW : Sp := fun vs H Q _ => ∃ (w : Nat) (x : V), vs = [.int w, x] ∧ 1 ≤ w ∧ w ≤ 64 ∧ Q .non H
def spChkWs (K : PySem.W.Frag) : Sp := fun vs H Q _ => ∃ (w : Nat) (t : Addr) (ns : List Int), vs = [.int w, .ref t] ∧ 1 ≤ w ∧ w ≤ 64 ∧ SqT K H t (ns.map V.int) ∧ (∀ n ∈ ns, Wd w n) ∧ ∀ H', Ex H H' → Q .non H'
def spBin (g : Nat → Int → Int → Int) : Sp := fun vs H Q _ => ∃ (w : Nat) (a b : Int), vs = [.int w, .int a, .int b] ∧ 1 ≤ w ∧ w ≤ 64 ∧ Wd w a ∧ Wd w b ∧ ∀ H', Ex H H' → Q (.int (g w a b)) H'
def spTimes : Sp := fun vs H Q _ => ∃ (w : Nat) (a b : Int), vs = [.int w, .int a, .int b] ∧ 1 ≤ w ∧ w ≤ 64 ∧ Wd w a ∧ b % 2 ≠ 0 ∧ b.natAbs < 2 ^ 4000 ∧ ∀ H', Ex H H' → Q (.int (a * b % 2 ^ w)) H'
def spBack : Sp := fun vs H Q _ => ∃ (w : Nat) (b : Int), vs = [.int w, .int b] ∧ 1 ≤ w ∧ w ≤ 64 ∧ b % 2 ≠ 0 ∧ b.natAbs < 2 ^ 4000 ∧ ∀ H', Ex H H' → Q (.int (backOf w b w)) H'
/-- the bits of a, p places up, round -/
def rotOf (w : Nat) (a : Int) (p : Nat) : Int := Builtin.bitOr (a * 2 ^ p) (a / 2 ^ (w - p)) % 2 ^ w
def spTurnBy : Sp := fun vs H Q _ => ∃ (w p : Nat) (a : Int), vs = [.int w, .int a, .int p] ∧ 1 ≤ w ∧ w ≤ 64 ∧ Wd w a ∧ p < w ∧ Q (.int (rotOf w a p)) H
def spTurn : Sp := fun vs H Q _ => ∃ (w : Nat) (a n : Int), vs = [.int w, .int a, .int n] ∧ 1 ≤ w ∧ w ≤ 64 ∧ Wd w a ∧ ∀ H', Ex H H' → Q (.int (rotOf w a (n % (w : Int)).toNat)) H'
theorem Dv.int' {H : Hp} (i : Int) : Dv [] H (.int i) (.int i) := .int i
end BkG
namespace BkG
open PySem PySem.Spec L2
/-! ### changes of words (k04), in plain Lean -/
structure Chg where
  at_ : Nat
  form : Nat
  isOf : Bool
  by_ : Int
def formV : Nat → Str
  | 0 => "plus" | 1 => "minus" | 2 => "mix" | 3 => "times" | _ => "turn"
/-- a change that may be drawn for m words of a width -/
structure Chg.Ok (w m : Nat) (c : Chg) : Prop where
  at_lt : c.at_ < m
  form_lt : c.form < 5
  odd : c.form = 3 → c.isOf = false ∧ c.by_ % 2 ≠ 0 ∧ c.by_.natAbs < 2 ^ 4000
  turn : c.form = 4 → c.isOf = false
  other : c.form < 3 → (c.isOf = true ∧ 0 ≤ c.by_ ∧ c.by_ < (m : Int) ∧ c.by_ ≠ (c.at_ : Int)) ∨ (c.isOf = false ∧ Wd w c.by_)
/-- what the word becomes -/
def Chg.new (w : Nat) (c : Chg) (one other : Int) (back : Bool) : Int :=
  if c.form = 0 then (if back then (one - other) % 2 ^ w else (one + other) % 2 ^ w)
  else if c.form = 1 then (if back then (one + other) % 2 ^ w else (one - other) % 2 ^ w)
  else if c.form = 2 then Builtin.bitXor one other
  else if c.form = 3 then one * (if back then backOf w other w else other) % 2 ^ w
  else rotOf w one ((if back then 0 - other else other) % (w : Int)).toNat
def Chg.oth (c : Chg) (ws : List Int) : Int := if c.isOf then ws.getD c.by_.toNat 0 else c.by_
def Chg.done (w : Nat) (c : Chg) (ws : List Int) (back : Bool) : List Int := ws.set c.at_ (c.new w (ws.getD c.at_ 0) (c.oth ws) back)
def Wds (w : Nat) (ws : List Int) : Prop := ∀ z ∈ ws, Wd w z
theorem or_nat (a b : Nat) : Builtin.bitOr (a : Int) (b : Int) = ((a ||| b : Nat) : Int) := by
  have h1 : ¬ (0 : Int) ≤ Builtin.bitNot (a : Int) := by unfold Builtin.bitNot; omega
  have h2 : ¬ (0 : Int) ≤ Builtin.bitNot (b : Int) := by unfold Builtin.bitNot; omega
  have e : ∀ n : Nat, (Builtin.bitNot (Builtin.bitNot (n : Int))).toNat = n := fun n => by unfold Builtin.bitNot; omega
  unfold Builtin.bitOr Builtin.bitAnd
  rw [decide_eq_false h1, decide_eq_false h2]
  show Builtin.bitNot (Builtin.bitNot _) = _
  rw [e, e]
  unfold Builtin.bitNot
  omega
theorem bit_split (x : Nat) : x = 2 * (x / 2) + (if x.testBit 0 = true then 1 else 0) := by
  rw [Nat.testBit_zero]
  by_cases h : x % 2 = 1
  · rw [decide_eq_true h, if_pos rfl]; omega
  · rw [decide_eq_false h, if_neg Bool.false_ne_true]; omega
theorem nat_or_and (a b : Nat) : a ||| b = (a ^^^ b) + (a &&& b) := by
  induction a using Nat.strongRecOn generalizing b with
  | _ a ih =>
    by_cases h0 : a = 0
    · subst h0; simp
    · have h := ih (a / 2) (by omega) (b / 2)
      have e1 := bit_split (a ||| b)
      have e2 := bit_split (a ^^^ b)
      have e3 := bit_split (a &&& b)
      rw [Nat.or_div_two, Nat.testBit_or] at e1
      rw [Nat.xor_div_two, Nat.testBit_xor] at e2
      rw [Nat.and_div_two, Nat.testBit_and] at e3
      cases ha : a.testBit 0 <;> cases hb : b.testBit 0 <;> rw [ha, hb] at e1 e2 e3 <;> simp at e1 e2 e3 <;> omega
theorem xor_nat (a b : Nat) : Builtin.bitXor (a : Int) (b : Int) = ((a ^^^ b : Nat) : Int) := by
  unfold Builtin.bitXor
  rw [or_nat, nat_or_and]
  have : Builtin.bitAnd (a : Int) (b : Int) = ((a &&& b : Nat) : Int) := by simp [Builtin.bitAnd]
  rw [this]
  omega
theorem Wd.nat {w : Nat} {a : Int} (h : Wd w a) : ∃ n : Nat, a = (n : Int) ∧ n < 2 ^ w := by
  refine ⟨a.toNat, (Int.toNat_of_nonneg h.1).symm, ?_⟩
  have h2 := h.2
  rw [← pow_cast] at h2
  have := h.1
  omega
theorem Wd.of_nat {w n : Nat} (h : n < 2 ^ w) : Wd w (n : Int) := ⟨by omega, by rw [← pow_cast]; exact_mod_cast h⟩
theorem xor_wd {w : Nat} {a b : Int} (ha : Wd w a) (hb : Wd w b) : Wd w (Builtin.bitXor a b) := by
  obtain ⟨x, rfl, hx⟩ := ha.nat
  obtain ⟨y, rfl, hy⟩ := hb.nat
  rw [xor_nat]
  exact .of_nat (Nat.xor_lt_two_pow hx hy)
theorem xor_back {w : Nat} {a b : Int} (ha : Wd w a) (hb : Wd w b) : Builtin.bitXor (Builtin.bitXor a b) b = a := by
  obtain ⟨x, rfl, hx⟩ := ha.nat
  obtain ⟨y, rfl, hy⟩ := hb.nat
  rw [xor_nat, xor_nat, Nat.xor_assoc, Nat.xor_self, Nat.xor_zero]
theorem sub_add_mod {w : Nat} {a b : Int} (ha : Wd w a) : ((a + b) % 2 ^ w - b) % 2 ^ w = a := by
  rw [Int.emod_sub_emod, show a + b - b = a by omega]
  exact Int.emod_eq_of_lt ha.1 ha.2
theorem add_sub_mod {w : Nat} {a b : Int} (ha : Wd w a) : ((a - b) % 2 ^ w + b) % 2 ^ w = a := by
  rw [Int.emod_add_emod, show a - b + b = a by omega]
  exact Int.emod_eq_of_lt ha.1 ha.2
theorem back_dvd {w : Nat} {n : Int} (hw : 1 ≤ w) (hn : n % 2 ≠ 0) : ((2 : Int) ^ w) ∣ backOf w n w * n - 1 := by
  -- the turns w - 1 undo n as far as w bits; one more turn keeps it
  obtain ⟨k, rfl⟩ : ∃ k, w = k + 1 := ⟨w - 1, by omega⟩
  obtain ⟨c, hc⟩ := backOf_ok (w := k + 1) hn k (Nat.le_refl _)
  have hm : backOf (k + 1) n (k + 1) = (backOf (k + 1) n k) * (2 - n * (backOf (k + 1) n k)) % 2 ^ (k + 1) := rfl
  obtain ⟨q, hq⟩ : ∃ q, backOf (k + 1) n (k + 1) = (backOf (k + 1) n k) * (2 - n * (backOf (k + 1) n k)) - 2 ^ (k + 1) * q := ⟨((backOf (k + 1) n k) * (2 - n * (backOf (k + 1) n k))) / 2 ^ (k + 1), by rw [hm, Int.emod_def]⟩
  rw [hq]
  generalize backOf (k + 1) n k = f at *
  have e1 : (f * (2 - n * f) - 2 ^ (k + 1) * q) * n - 1 = -((f * n - 1) * (f * n - 1)) - 2 ^ (k + 1) * (q * n) := by
    rw [Int.sub_mul, Int.mul_sub, Int.sub_mul, Int.sub_mul, Int.mul_sub, Int.mul_sub]
    have a1 : f * 2 * n = 2 * (f * n) := by rw [Int.mul_comm f 2, Int.mul_assoc]
    have a2 : f * (n * f) * n = f * n * (f * n) := by rw [Int.mul_assoc f (n * f) n, Int.mul_assoc n f n, ← Int.mul_assoc f n (f * n)]
    have a3 : 2 ^ (k + 1) * q * n = 2 ^ (k + 1) * (q * n) := Int.mul_assoc _ _ _
    rw [a1, a2, a3]
    omega
  rw [e1, hc]
  refine Int.dvd_sub (Int.dvd_neg.mpr ?_) (Int.dvd_mul_right _ _)
  rw [Int.mul_assoc]
  exact Int.dvd_mul_right _ _
theorem times_back {w : Nat} {a n : Int} (hw : 1 ≤ w) (ha : Wd w a) (hn : n % 2 ≠ 0) : a * n % 2 ^ w * backOf w n w % 2 ^ w = a := by
  obtain ⟨c, hc⟩ := back_dvd hw hn
  rw [Int.mul_emod, Int.emod_emod, ← Int.mul_emod, Int.mul_assoc, Int.mul_comm n, show backOf w n w * n = 1 + 2 ^ w * c by omega, Int.mul_add, Int.mul_one, Int.mul_left_comm, Int.add_mul_emod_self_left]
  exact Int.emod_eq_of_lt ha.1 ha.2
/-! rotations, by numbers -/
def rotN (w a p : Nat) : Nat := a * 2 ^ p % 2 ^ w + a / 2 ^ (w - p)
theorem rotOf_nat {w a p : Nat} (ha : a < 2 ^ w) (hp : p < w) : rotOf w (a : Int) p = (rotN w a p : Nat) := by
  unfold rotOf rotN
  have e1 : ((a : Int) * 2 ^ p) = ((a * 2 ^ p : Nat) : Int) := by rw [Int.natCast_mul, pow_cast]
  have e2 : ((a : Int) / 2 ^ (w - p)) = ((a / 2 ^ (w - p) : Nat) : Int) := by rw [Int.natCast_ediv, pow_cast]
  rw [e1, e2, or_nat, ← pow_cast, ← Int.natCast_emod]
  have hlow : a / 2 ^ (w - p) < 2 ^ p := by
    rw [Nat.div_lt_iff_lt_mul (Nat.pow_pos (by decide)), ← Nat.pow_add, show p + (w - p) = w by omega]
    exact ha
  have e3 : a * 2 ^ p ||| a / 2 ^ (w - p) = a * 2 ^ p + a / 2 ^ (w - p) := by
    have h := Nat.shiftLeft_add_eq_or_of_lt hlow a
    rw [Nat.shiftLeft_eq] at h
    exact h.symm
  rw [e3]
  congr 1
  -- (a * 2^p + r) % 2^w = a * 2^p % 2^w + r, r < 2^p
  have hdv : 2 ^ w = 2 ^ p * 2 ^ (w - p) := by rw [← Nat.pow_add, show p + (w - p) = w by omega]
  have hmm : a * 2 ^ p % 2 ^ w = 2 ^ p * (a % 2 ^ (w - p)) := by rw [Nat.mul_comm a, hdv, Nat.mul_mod_mul_left]
  have hlt : 2 ^ p * (a % 2 ^ (w - p)) + a / 2 ^ (w - p) < 2 ^ w := by
    have h1 : a % 2 ^ (w - p) < 2 ^ (w - p) := Nat.mod_lt _ (Nat.pow_pos (by decide))
    have h2 : 2 ^ p * (a % 2 ^ (w - p) + 1) ≤ 2 ^ p * 2 ^ (w - p) := Nat.mul_le_mul_left _ h1
    rw [← hdv, Nat.mul_add] at h2
    omega
  rw [Nat.add_mod, hmm, Nat.mod_eq_of_lt (a := a / 2 ^ (w - p)) (by
    have h4 : 2 ^ p ≤ 2 ^ w := Nat.pow_le_pow_right (by decide) (by omega)
    omega), Nat.mod_eq_of_lt hlt]
theorem rotN_eq {w a p : Nat} (hp : p < w) : rotN w a p = 2 ^ p * (a % 2 ^ (w - p)) + a / 2 ^ (w - p) := by
  unfold rotN
  have hdv : 2 ^ w = 2 ^ p * 2 ^ (w - p) := by rw [← Nat.pow_add, show p + (w - p) = w by omega]
  rw [Nat.mul_comm a, hdv, Nat.mul_mod_mul_left]
theorem rotN_lt {w a p : Nat} (ha : a < 2 ^ w) (hp : p < w) : rotN w a p < 2 ^ w := by
  rw [rotN_eq hp]
  have hdv : 2 ^ w = 2 ^ p * 2 ^ (w - p) := by rw [← Nat.pow_add, show p + (w - p) = w by omega]
  have hlow : a / 2 ^ (w - p) < 2 ^ p := by
    rw [Nat.div_lt_iff_lt_mul (Nat.pow_pos (by decide)), ← Nat.pow_add, show p + (w - p) = w by omega]
    exact ha
  have h1 : a % 2 ^ (w - p) < 2 ^ (w - p) := Nat.mod_lt _ (Nat.pow_pos (by decide))
  have h2 : 2 ^ p * (a % 2 ^ (w - p) + 1) ≤ 2 ^ p * 2 ^ (w - p) := Nat.mul_le_mul_left _ h1
  rw [← hdv, Nat.mul_add] at h2
  omega
theorem rotN_back {w a p : Nat} (ha : a < 2 ^ w) (hp0 : 0 < p) (hp : p < w) : rotN w (rotN w a p) (w - p) = a := by
  have hlow : a / 2 ^ (w - p) < 2 ^ p := by
    rw [Nat.div_lt_iff_lt_mul (Nat.pow_pos (by decide)), ← Nat.pow_add, show p + (w - p) = w by omega]
    exact ha
  rw [rotN_eq (p := w - p) (by omega), show w - (w - p) = p by omega, rotN_eq hp]
  have h1 : (2 ^ p * (a % 2 ^ (w - p)) + a / 2 ^ (w - p)) % 2 ^ p = a / 2 ^ (w - p) := by
    rw [Nat.mul_add_mod, Nat.mod_eq_of_lt hlow]
  have h2 : (2 ^ p * (a % 2 ^ (w - p)) + a / 2 ^ (w - p)) / 2 ^ p = a % 2 ^ (w - p) := by
    rw [Nat.mul_add_div (Nat.pow_pos (by decide)), Nat.div_eq_of_lt hlow, Nat.add_zero]
  rw [h1, h2]
  exact Nat.div_add_mod a (2 ^ (w - p))
theorem rotN_zero {w a : Nat} (ha : a < 2 ^ w) : rotN w a 0 = a := by
  unfold rotN
  rw [Nat.pow_zero, Nat.mul_one, Nat.mod_eq_of_lt ha, Nat.sub_zero, Nat.div_eq_of_lt ha, Nat.add_zero]
theorem rot_wd {w : Nat} {a : Int} {p : Nat} (ha : Wd w a) (hp : p < w) : Wd w (rotOf w a p) := by
  obtain ⟨x, rfl, hx⟩ := ha.nat
  rw [rotOf_nat hx hp]
  exact .of_nat (rotN_lt hx hp)
theorem rot_back {w : Nat} {a n : Int} (hw : 1 ≤ w) (ha : Wd w a) : rotOf w (rotOf w a (n % (w : Int)).toNat) ((0 - n) % (w : Int)).toNat = a := by
  obtain ⟨x, rfl, hx⟩ := ha.nat
  have m0 : 0 ≤ n % (w : Int) := Int.emod_nonneg _ (by omega)
  have m1 : n % (w : Int) < w := Int.emod_lt_of_pos _ (by omega)
  have hp : (n % (w : Int)).toNat < w := by omega
  have k0 : 0 ≤ (0 - n) % (w : Int) := Int.emod_nonneg _ (by omega)
  have k1 : (0 - n) % (w : Int) < w := Int.emod_lt_of_pos _ (by omega)
  rw [rotOf_nat hx hp, rotOf_nat (rotN_lt hx hp) (by omega)]
  congr 1
  by_cases h0 : n % (w : Int) = 0
  · have e : (0 - n) % (w : Int) = 0 := by
      rw [Int.zero_sub]
      exact Int.emod_eq_zero_of_dvd (Int.dvd_neg.mpr (Int.dvd_of_emod_eq_zero h0))
    rw [h0, e]
    show rotN w (rotN w x 0) 0 = x
    rw [rotN_zero hx, rotN_zero hx]
  · have e : (0 - n) % (w : Int) = w - n % (w : Int) := by
      have h1 : (0 - n) % (w : Int) = (w - n % (w : Int)) % (w : Int) := by
        rw [Int.sub_emod_emod]
        have : (w : Int) - n = (0 - n) + w := by omega
        rw [this]; simp
      rw [h1]
      exact Int.emod_eq_of_lt (by omega) (by omega)
    rw [e, show ((w : Int) - n % (w : Int)).toNat = w - (n % (w : Int)).toNat by omega]
    exact rotN_back hx (by omega) hp
theorem getD_set_self {l : List Int} {i : Nat} {x : Int} (h : i < l.length) : (l.set i x).getD i 0 = x := by
  rw [List.getD_eq_getElem?_getD, List.getElem?_set_self h]; rfl
theorem getD_set_ne {l : List Int} {i j : Nat} {x : Int} (h : i ≠ j) : (l.set i x).getD j 0 = l.getD j 0 := by
  rw [List.getD_eq_getElem?_getD, List.getElem?_set_ne h, List.getD_eq_getElem?_getD]
theorem set_getD_self {l : List Int} {i : Nat} (h : i < l.length) : l.set i (l.getD i 0) = l := by
  rw [List.getD_eq_getElem?_getD, List.getElem?_eq_getElem h]
  exact List.set_getElem_self h
theorem Wds.getD {w : Nat} {l : List Int} {i : Nat} (h : Wds w l) (hi : i < l.length) : Wd w (l.getD i 0) := by
  rw [List.getD_eq_getElem?_getD, List.getElem?_eq_getElem hi]
  exact h _ (List.getElem_mem hi)
theorem Chg.Ok.oth_wd {w : Nat} {c : Chg} {ws : List Int} (ok : c.Ok w ws.length) (h : Wds w ws) (hf : c.form < 3) : Wd w (c.oth ws) := by
  unfold Chg.oth
  rcases ok.other hf with ⟨e, h0, h1, _⟩ | ⟨e, hb⟩
  · rw [e, if_pos rfl]; exact h.getD (by omega)
  · rw [e, if_neg Bool.false_ne_true]; exact hb
theorem Chg.Ok.new_wd {w : Nat} {c : Chg} {ws : List Int} {back : Bool} (hw : 1 ≤ w) (ok : c.Ok w ws.length) (h : Wds w ws) : Wd w (c.new w (ws.getD c.at_ 0) (c.oth ws) back) := by
  have h1 := h.getD ok.at_lt
  unfold Chg.new
  split
  · cases back <;> exact Wd.mod _ _
  · split
    · cases back <;> exact Wd.mod _ _
    · split
      · exact xor_wd h1 (ok.oth_wd h (by omega))
      · split
        · exact Wd.mod _ _
        · have m1 : (if back = true then 0 - c.oth ws else c.oth ws) % (w : Int) < w := Int.emod_lt_of_pos _ (by omega)
          have m0 : 0 ≤ (if back = true then 0 - c.oth ws else c.oth ws) % (w : Int) := Int.emod_nonneg _ (by omega)
          exact rot_wd h1 (by omega)
theorem Chg.done_len {w : Nat} {c : Chg} {ws : List Int} {back : Bool} : (c.done w ws back).length = ws.length := by unfold Chg.done; rw [List.length_set]
theorem Chg.Ok.done_wd {w : Nat} {c : Chg} {ws : List Int} {back : Bool} (hw : 1 ≤ w) (ok : c.Ok w ws.length) (h : Wds w ws) : Wds w (c.done w ws back) := by
  intro z hz
  unfold Chg.done at hz
  rcases List.mem_or_eq_of_mem_set hz with h1 | h1
  · exact h z h1
  · rw [h1]; exact ok.new_wd hw h
theorem Chg.Ok.new_back {w : Nat} {c : Chg} {ws : List Int} (hw : 1 ≤ w) (ok : c.Ok w ws.length) (h : Wds w ws) :
    c.new w (c.new w (ws.getD c.at_ 0) (c.oth ws) false) (c.oth ws) true = ws.getD c.at_ 0 := by
  have h1 := h.getD ok.at_lt
  unfold Chg.new
  by_cases f0 : c.form = 0
  · rw [if_pos f0, if_pos f0]; exact sub_add_mod h1
  rw [if_neg f0, if_neg f0]
  by_cases f1 : c.form = 1
  · rw [if_pos f1, if_pos f1]; exact add_sub_mod h1
  rw [if_neg f1, if_neg f1]
  by_cases f2 : c.form = 2
  · rw [if_pos f2, if_pos f2]; exact xor_back h1 (ok.oth_wd h (by omega))
  rw [if_neg f2, if_neg f2]
  by_cases f3 : c.form = 3
  · rw [if_pos f3, if_pos f3]
    obtain ⟨e, ho, _⟩ := ok.odd f3
    have eo : c.oth ws = c.by_ := by unfold Chg.oth; rw [e, if_neg Bool.false_ne_true]
    rw [eo]
    exact times_back hw h1 ho
  · rw [if_neg f3, if_neg f3]
    exact rot_back hw h1
theorem Chg.Ok.back {w : Nat} {c : Chg} {ws : List Int} (hw : 1 ≤ w) (ok : c.Ok w ws.length) (h : Wds w ws) : c.done w (c.done w ws false) true = ws := by
  have hl := ok.at_lt
  have eo : c.oth (c.done w ws false) = c.oth ws := by
    unfold Chg.oth
    by_cases e : c.isOf = true
    · rw [if_pos e, if_pos e]
      have hf : c.form < 3 := by
        have h5 := ok.form_lt
        by_cases f3 : c.form = 3
        · rw [(ok.odd f3).1] at e; cases e
        · by_cases f4 : c.form = 4
          · rw [ok.turn f4] at e; cases e
          · omega
      rcases ok.other hf with ⟨_, h0, h1, h2⟩ | ⟨e', _⟩
      · exact getD_set_ne (by omega)
      · rw [e'] at e; cases e
    · rw [if_neg e, if_neg e]
  have e1 : (c.done w ws false).getD c.at_ 0 = c.new w (ws.getD c.at_ 0) (c.oth ws) false := getD_set_self hl
  show (c.done w ws false).set c.at_ (c.new w ((c.done w ws false).getD c.at_ 0) (c.oth (c.done w ws false)) true) = ws
  rw [eo, e1, ok.new_back hw h]
  unfold Chg.done
  rw [List.set_set]
  exact set_getD_self hl
/-! rows of changes -/
def doneAll (w : Nat) (cs : List Chg) (ws : List Int) : List Int := cs.foldl (fun l c => c.done w l false) ws
theorem doneAll_inj {w m : Nat} (hw : 1 ≤ w) : ∀ (cs : List Chg) (ws us : List Int), (∀ c ∈ cs, c.Ok w m) → ws.length = m → us.length = m → Wds w ws → Wds w us → doneAll w cs ws = doneAll w cs us → ws = us
  | [], ws, us, _, _, _, _, _, e => e
  | c :: cs, ws, us, ok, lw, lu, hws, hus, e => by
    have o1 : c.Ok w ws.length := by rw [lw]; exact ok c List.mem_cons_self
    have o2 : c.Ok w us.length := by rw [lu]; exact ok c List.mem_cons_self
    have ih := doneAll_inj hw cs (c.done w ws false) (c.done w us false) (fun d hd => ok d (List.mem_cons_of_mem _ hd)) (by rw [Chg.done_len, lw]) (by rw [Chg.done_len, lu]) (o1.done_wd hw hws) (o2.done_wd hw hus) e
    rw [← o1.back hw hws, ← o2.back hw hus, ih]
theorem doneAll_wd {w m : Nat} (hw : 1 ≤ w) : ∀ (cs : List Chg) (ws : List Int), (∀ c ∈ cs, c.Ok w m) → ws.length = m → Wds w ws → Wds w (doneAll w cs ws) ∧ (doneAll w cs ws).length = m
  | [], ws, _, lw, h => ⟨h, lw⟩
  | c :: cs, ws, ok, lw, h => by
    have o1 : c.Ok w ws.length := by rw [lw]; exact ok c List.mem_cons_self
    exact doneAll_wd hw cs (c.done w ws false) (fun d hd => ok d (List.mem_cons_of_mem _ hd)) (by rw [Chg.done_len, lw]) (o1.done_wd hw h)
/-! a change on the heap -/
def tagV : Bool → Str
  | true => "of"
  | false => "is"
def RC (H : Hp) (v : V) (c : Chg) : Prop := ∃ p q, v = .ref p ∧ H p = some (.tup [.int (c.at_ : Int), .str (formV c.form), .ref q]) ∧ H q = some (.tup [.str (tagV c.isOf), .int c.by_])
def spDone : Sp := fun vs H Q _ => ∃ (w : Nat) (l : Addr) (ws : List Int) (v : V) (c : Chg) (back : Bool), vs = [.int w, .ref l, v, .bl back] ∧ 1 ≤ w ∧ w ≤ 64 ∧ H l = some (.lst (ws.map V.int)) ∧ ws.length ≤ 1000 ∧ Wds w ws ∧ RC H v c ∧ c.Ok w ws.length ∧
  ∀ p H', H p = none → Ex H H' → H' p = some (.lst ((c.done w ws back).map V.int)) → Q (.ref p) H'
def spChange : Sp := fun vs H Q _ => ∃ (D L : Addr) (w m : Nat), vs = [.ref D, .int w, .int m] ∧ 1 ≤ w ∧ w ≤ 64 ∧ 1 ≤ m ∧ m ≤ 1000 ∧ Deal H D L ∧
  ∀ (c : Chg) (v : V) (H' : Hp), c.Ok w m → RC H' v c → Deal H' D L → Kp [D, L] H H' → Q v H'
theorem r_in {K : PySem.W.Frag} {H : Hp} {Q : VK} {x : V} {p : Addr} {xs : List V} (h : SqL K H p xs ∨ SqT K H p xs) (hx : flatV x = true) (ha : xs.all flatV = true) (q : Q (.bl (inV x xs)) H) : rIn K false x (.ref p) H Q := ⟨p, xs, rfl, h, hx, ha, q⟩
theorem r_notin {K : PySem.W.Frag} {H : Hp} {Q : VK} {x : V} {p : Addr} {xs : List V} (h : SqL K H p xs ∨ SqT K H p xs) (hx : flatV x = true) (ha : xs.all flatV = true) (q : Q (.bl (!inV x xs)) H) : rIn K true x (.ref p) H Q := ⟨p, xs, rfl, h, hx, ha, q⟩
theorem atI_getD {ws : List Int} {z : Int} (h0 : 0 ≤ z) (h1 : z < (ws.length : Int)) : atI (ws.map V.int) z = some (.int (ws.getD z.toNat 0)) := by
  obtain ⟨x, e, e'⟩ := atI_of (xs := ws.map V.int) h0 (by rw [List.length_map]; exact h1)
  obtain ⟨y, hy, rfl⟩ := map_some e'
  rw [e, List.getD_eq_getElem?_getD, hy]; rfl
theorem cut_from {xs : List V} {k : Nat} (h : k ≤ xs.length) : cutV xs (some (k : Int)) none = xs.drop k := by
  unfold cutV
  rw [HT.sIx_none, HT.sIx_nat, Nat.min_eq_left h]
  exact List.take_of_length_le (by rw [List.length_drop]; omega)
theorem done_list {w : Nat} {c : Chg} {ws : List Int} {back : Bool} (h : c.at_ < ws.length) : (c.done w ws back).map V.int = (ws.map V.int).take c.at_ ++ [V.int (c.new w (ws.getD c.at_ 0) (c.oth ws) back)] ++ (ws.map V.int).drop (c.at_ + 1) := by
  unfold Chg.done
  rw [List.set_eq_take_append_cons_drop, if_pos h, List.map_append, List.map_cons, List.map_take, List.map_drop]
  simp
end BkG
namespace BkG
open PySem PySem.Spec L2
/-! ### tuples stay -/
def Kt (H H' : Hp) : Prop := ∀ a xs, H a = some (.tup xs) → H' a = some (.tup xs)
theorem Kt.of_ex {H H' : Hp} (e : Ex H H') : Kt H H' := fun a xs h => e a _ h
theorem Kt.trans {H H1 H2 : Hp} (a : Kt H H1) (b : Kt H1 H2) : Kt H H2 := fun x xs h => b x xs (a x xs h)
theorem Deal.notup {H : Hp} {D L p : Addr} {xs : List V} (d : Deal H D L) (h : H p = some (.tup xs)) : p ≠ D ∧ p ≠ L := by
  obtain ⟨st, b, d⟩ := d
  exact ⟨fun e => (by rw [e, d.hD] at h; cases h), fun e => (by rw [e, d.hL] at h; cases h)⟩
theorem Kt.of_kp {H H' : Hp} {D L : Addr} (k : Kp [D, L] H H') (d : Deal H D L) : Kt H H' := fun a xs h => by
  obtain ⟨n1, n2⟩ := d.notup h
  exact k _ _ h (by simp [n1, n2])
theorem Kt.of_kp1 {H H' : Hp} {S : Addr} {xs : List V} (k : Kp [S] H H') (hS : H S = some (.lst xs)) : Kt H H' := fun a ys h => by
  refine k _ _ h ?_
  simp only [List.mem_singleton]
  intro e; rw [e, hS] at h; cases h
theorem Kt.of_mut {H H' : Hp} {S : Addr} {xs : List V} (k : ∀ a o, a ≠ S → H a = some o → H' a = some o) (hS : H S = some (.lst xs)) : Kt H H' := fun a ys h => k _ _ (fun e => by rw [e, hS] at h; cases h) h
theorem RC.kt {H H' : Hp} {v : V} {c : Chg} (h : RC H v c) (k : Kt H H') : RC H' v c := let ⟨p, q, e, h1, h2⟩ := h; ⟨p, q, e, k _ _ h1, k _ _ h2⟩
def RCs (H : Hp) (vs : List V) (cs : List Chg) : Prop := vs.length = cs.length ∧ ∀ (i : Nat) (v : V) (c : Chg), vs[i]? = some v → cs[i]? = some c → RC H v c
theorem RCs.kt {H H' : Hp} {vs : List V} {cs : List Chg} (h : RCs H vs cs) (k : Kt H H') : RCs H' vs cs := ⟨h.1, fun i v c a b => (h.2 i v c a b).kt k⟩
theorem RCs.snoc {H : Hp} {vs : List V} {cs : List Chg} {v : V} {c : Chg} (h : RCs H vs cs) (r : RC H v c) : RCs H (vs ++ [v]) (cs ++ [c]) := by
  refine ⟨by simp [h.1], fun i x y hx hy => ?_⟩
  by_cases hi : i < vs.length
  · rw [List.getElem?_append_left hi] at hx
    rw [List.getElem?_append_left (by rw [← h.1]; exact hi)] at hy
    exact h.2 i x y hx hy
  · rw [List.getElem?_append_right (by omega)] at hx
    rw [List.getElem?_append_right (by rw [← h.1]; omega)] at hy
    rw [h.1] at hx
    rcases hz : i - cs.length with _ | z
    · rw [hz] at hx hy; cases hx; cases hy; exact r
    · rw [hz] at hx; cases hx
theorem Deal.kp1 {H H' : Hp} {D L S : Addr} (d : Deal H D L) (k : Kp [S] H H') (n1 : S ≠ D) (n2 : S ≠ L) : Deal H' D L := by
  obtain ⟨st, b, d⟩ := d
  exact ⟨st, b, k _ _ d.hD (by simpa using fun e => n1 e.symm), k _ _ d.hL (by simpa using fun e => n2 e.symm), d.len, d.all, d.b0, d.b1⟩
theorem Deal.kpm {H H' : Hp} {D L S : Addr} (d : Deal H D L) (k : ∀ a o, a ≠ S → H a = some o → H' a = some o) (n1 : S ≠ D) (n2 : S ≠ L) : Deal H' D L := by
  obtain ⟨st, b, d⟩ := d
  exact ⟨st, b, k _ _ (fun e => n1 e.symm) d.hD, k _ _ (fun e => n2 e.symm) d.hL, d.len, d.all, d.b0, d.b1⟩
theorem Deal.fresh {H : Hp} {D L p : Addr} (h : Deal H D L) (hp : H p = none) : p ≠ D ∧ p ≠ L := by
  obtain ⟨st, b, d⟩ := h
  exact ⟨fun e => (by rw [e, d.hD] at hp; cases hp), fun e => (by rw [e, d.hL] at hp; cases hp)⟩
/-! ### rows of changes, turn by turn -/
theorem doneAll_more {w : Nat} {cs : List Chg} {c : Chg} {ws : List Int} : doneAll w (cs ++ [c]) ws = c.done w (doneAll w cs ws) false := by
  unfold doneAll; rw [List.foldl_append]; rfl
theorem doneAll_take {w i : Nat} {cs : List Chg} {c : Chg} {ws : List Int} (h : cs[i]? = some c) : doneAll w (cs.take (i + 1)) ws = c.done w (doneAll w (cs.take i) ws) false := by
  rw [take_more h, doneAll_more]
/-! ### ints, equal lists -/
theorem eqv_ints : ∀ ns : List Int, PyData.eqv (.list (ns.map PyData.int)) (.list (ns.map PyData.int)) = true := by
  have h : ∀ ns : List Int, PyData.eqvAll (ns.map PyData.int) (ns.map PyData.int) = true := by
    intro ns
    induction ns with
    | nil => rfl
    | cons n r ih => simp only [List.map_cons, PyData.eqvAll, ih, Bool.and_true]; simp [PyData.eqv]
  intro ns
  simp only [PyData.eqv]; exact h ns
theorem okD_ints {ns : List Int} {k : Nat} (h : ns.length ≤ 90000) : okD (k + 1) (.list (ns.map PyData.int)) = true := by
  simp only [okD, Bool.and_eq_true, decide_eq_true_eq, List.all_eq_true, List.length_map]
  refine ⟨h, fun x hx => ?_⟩
  obtain ⟨n, _, rfl⟩ := List.mem_map.mp hx
  cases k <;> rfl
theorem dv_ints {M : List Addr} {H : Hp} {a : Addr} {ns : List Int} (h : H a = some (.lst (ns.map V.int))) (n : a ∉ M) : Dv M H (.ref a) (.list (ns.map PyData.int)) := by
  refine .lst h n (by simp) fun i v d h1 h2 => ?_
  obtain ⟨x, e1, rfl⟩ := map_some h1
  obtain ⟨y, e2, rfl⟩ := map_some h2
  rw [e1] at e2; cases e2; exact .int x
/-- a list of n different numbers below n, sorted, counts -/
theorem sorted_range {n : Nat} {ys : List Int} (hl : ys.length = n) (hn : ys.Nodup) (hs : ys.Pairwise (· ≤ ·)) (hb : ∀ y ∈ ys, 0 ≤ y ∧ y < (n : Int)) : ys = (List.range n).map fun i : Nat => (i : Int) := by
  have hlt : ∀ (i : Nat) (hi : i < ys.length) (j : Nat) (hj : j < ys.length), i < j → ys[i] < ys[j] := fun i hi j hj hij => by
    have h1 := List.pairwise_iff_getElem.mp hs i j hi hj hij
    have h2 := List.pairwise_iff_getElem.mp hn i j hi hj hij
    omega
  have low : ∀ (i : Nat) (hi : i < ys.length), (i : Int) ≤ ys[i] := by
    intro i
    induction i with
    | zero => intro hi; exact (hb _ (List.getElem_mem hi)).1
    | succ i ih =>
      intro hi
      have h1 := ih (by omega)
      have h2 := hlt i (by omega) (i + 1) hi (by omega)
      omega
  have high : ∀ (k i : Nat) (hi : i < ys.length), i + k + 1 = ys.length → ys[i] ≤ (i : Int) := by
    intro k
    induction k with
    | zero => intro i hi e; have h := (hb _ (List.getElem_mem hi)).2; omega
    | succ k ih =>
      intro i hi e
      have h1 := ih (i + 1) (by omega) (by omega)
      have h2 := hlt i hi (i + 1) (by omega) (by omega)
      omega
  refine List.ext_getElem (by simp [hl]) fun i h1 h2 => ?_
  have a := low i h1
  have b := high (ys.length - i - 1) i h1 (by omega)
  simp only [List.getElem_map, List.getElem_range]
  omega
theorem sorted_image {n : Nat} {f : Nat → Int} {ys : List Int} (hp : ys.Perm ((List.range n).map f)) (hs : ys.Pairwise (· ≤ ·)) (hb : ∀ j, j < n → 0 ≤ f j ∧ f j < (n : Int)) (inj : ∀ j k, j < n → k < n → f j = f k → j = k) : ys = (List.range n).map fun i : Nat => (i : Int) := by
  refine sorted_range ?_ ?_ hs fun y hy => ?_
  · rw [hp.length_eq, List.length_map, List.length_range]
  · refine hp.nodup_iff.mpr (List.pairwise_map.mpr ?_)
    refine List.Pairwise.imp_of_mem (fun {a b} ha hb hne e => hne (inj a b (List.mem_range.mp ha) (List.mem_range.mp hb) e)) List.nodup_range
  · obtain ⟨j, hj, rfl⟩ := List.mem_map.mp (hp.mem_iff.mp hy)
    exact hb j (List.mem_range.mp hj)
theorem Kt.of_kpD {H H' : Hp} {S : Addr} {kvs : List (Key × V)} (k : Kp [S] H H') (hS : H S = some (.dK kvs)) : Kt H H' := fun a ys h => by
  refine k _ _ h ?_
  simp only [List.mem_singleton]
  intro e; rw [e, hS] at h; cases h
theorem one_list {l : List Int} (h : l.length = 1) : l = [l.getD 0 0] := by
  match l, h with
  | [x], _ => rfl
theorem rgV_nat {n : Nat} : rgV 0 (n : Int) = ((List.range n).map fun i : Nat => (i : Int)).map V.int := by
  unfold rgV
  rw [show ((n : Int) - 0).toNat = n by omega, List.map_map]
  refine List.map_congr_left fun i _ => ?_
  show V.int (0 + (i : Int)) = V.int (i : Int)
  rw [Int.zero_add]
theorem atI_last_get {α : Type} {xs : List α} (h : 0 < xs.length) : atI xs (-1) = xs[xs.length - 1]? := by
  unfold atI ixN
  rw [if_neg (by omega), if_pos (by omega)]
  show xs[(-1 + (xs.length : Int)).toNat]? = _
  rw [show (-1 + (xs.length : Int)).toNat = xs.length - 1 by omega]
theorem ty_and {A B : Prop} (a : A) (b : B) : A ∧ B := ⟨a, b⟩
/-! ### dicts with keys of ints -/
theorem putK_new {kvs : List (Key × V)} {ks : List Int} {k : Int} {v : V} (h : kvs.map (·.1) = ks.map Sum.inl) (n : k ∉ ks) : putK kvs (Sum.inl k) v = kvs ++ [(Sum.inl k, v)] := by
  unfold putK
  rw [if_neg]
  intro e
  obtain ⟨kv, hkv, e'⟩ := List.any_eq_true.mp e
  have e2 : kv.1 = Sum.inl k := of_decide_eq_true e'
  have h2 : kv.1 ∈ kvs.map (·.1) := List.mem_map.mpr ⟨kv, hkv, rfl⟩
  rw [h, e2] at h2
  obtain ⟨z, hz, e3⟩ := List.mem_map.mp h2
  cases e3
  exact n hz
section
variable {K : PySem.W.Frag} {σ : St} {H : Hp} {Q : VK} {f bk ct : St → Hp → Prop} {rt : VK} {td ty tv : TE}
theorem w_dnewK (q : ∀ p H2, H p = none → Ex H H2 → H2 p = some (.dK []) → Q (.ref p) H2) : tDNewK σ H Q := fun p hp => q p _ hp (Ex.new hp) upd_same
def kPut (td ty : TE) (D : Ends) (σ : St) : VK := fun v H1 => td σ H1 fun x H2 => ty σ H2 fun y H3 => ∃ a H4, x = .ref a ∧ DPut H3 a y v H4 ∧ D.nx σ H4
theorem w_dput (h : tv σ H fun v H1 => td σ H1 fun x H2 => ty σ H2 fun y H3 => ∃ a H4, x = .ref a ∧ DPut H3 a y v H4 ∧ f σ H4) : sDPut td ty tv ⟨f, rt, bk, ct⟩ σ H := h
theorem put_ok {a : Addr} {kvs : List (Key × V)} {k : Int} {v : V} {F : Hp → Prop} (h : H a = some (.dK kvs)) (hl : kvs.length < 100000) (q : ∀ H2, Kp [a] H H2 → H2 a = some (.dK (putK kvs (Sum.inl k) v)) → F H2) : ∃ b H4, V.ref a = .ref b ∧ DPut H b (.int k) v H4 ∧ F H4 :=
  ⟨a, _, rfl, DPut.k (k := Sum.inl k) h (sz_lt hl), q _ (fun x o hx n => by rw [upd_ne (by simpa using n)]; exact hx) upd_same⟩
def kRg (Q : VK) : VK := fun x H1 => ∃ n, x = .int n ∧ RgOk 0 n ∧ ∀ q, H1 q = none → Q (.ref q) (upd H1 q (.lst (rgV 0 n)))
theorem w_lstRg {te : TE} (h : te σ H (kRg Q)) : tLstRg (tRg1 te) σ H Q := h
theorem k_rg {n : Nat} (hn : n ≤ 16777216) (q : ∀ p H2, H p = none → Ex H H2 → H2 p = some (.lst (((List.range n).map fun i : Nat => (i : Int)).map V.int)) → Q (.ref p) H2) : kRg Q (.int (n : Int)) H :=
  ⟨_, rfl, RgOk.of_le (by omega) (by omega) (by omega) (by omega), fun p hp => q p _ hp (Ex.new hp) (by rw [rgV_nat]; exact upd_same)⟩
end
end BkG
namespace PySem
namespace BkZip
open Sem (wp)
section
variable {prog : Program} {w : World} {A : Around} {E : Value → Shared → Prop} {s : Shared}
theorem max_intTup {l : Addr} {xs : Array (Int × Tok)} {Q : Value → Shared → Prop} (hh : A.handled = none) (hl : s.heap.IsTuple l (intItems xs)) (hll : l < s.heap.objs.size) (hne : 0 < xs.size)
    (h : ∀ v h' tk, (intItems xs)[argBest (fun i j => decide (numAt xs i > numAt xs j)) (xs.size - 1)]? = some v → (∀ b o, s.heap.get? b = some o → h'.get? b = some o) → Q v { s with heap := h', toks := tk }) :
    wpAny (model prog w) A (call (.builtin "max") [.ref l]) Q E s := by
  refine call_max_walk (wpAny_pyIter_tuple hl ?_)
  refine ⟨_, [_, l], [_], _, _, _, _, rfl, Walks.tuple (A := A.in1) hh _ l (Nat.ne_of_lt hll) (intItems xs),
    ⟨⟨_, Heap.get?_push_size _ rfl, rfl, rfl⟩, hl.push _⟩, fun c hc => ?_, by simpa [intItems] using hne, CmpOf.ints_gt (numAt xs) (fun _ _ => intItems_at), fun v h' tk hP hk => ?_⟩
  · show c < (s.heap.push _).objs.size
    rw [Heap.size_push]
    rcases List.mem_cons.mp hc with rfl | hc
    · exact Nat.lt_succ_self _
    · rcases List.mem_cons.mp hc with rfl | hc
      · exact Nat.lt_succ_of_lt hll
      · cases hc
  · refine h v h' tk (by simpa [intItems] using hP) fun b o e => hk b o (fun hm => ?_) (Heap.get?_push_of_some _ e)
    have e2 := List.mem_singleton.mp hm
    have h3 := Heap.lt_size e
    rw [e2] at h3
    exact absurd h3 (Nat.lt_irrefl _)
theorem min_intTup {l : Addr} {xs : Array (Int × Tok)} {Q : Value → Shared → Prop} (hh : A.handled = none) (hl : s.heap.IsTuple l (intItems xs)) (hll : l < s.heap.objs.size) (hne : 0 < xs.size)
    (h : ∀ v h' tk, (intItems xs)[argBest (fun i j => decide (numAt xs i < numAt xs j)) (xs.size - 1)]? = some v → (∀ b o, s.heap.get? b = some o → h'.get? b = some o) → Q v { s with heap := h', toks := tk }) :
    wpAny (model prog w) A (call (.builtin "min") [.ref l]) Q E s := by
  refine call_min_walk (wpAny_pyIter_tuple hl ?_)
  refine ⟨_, [_, l], [_], _, _, _, _, rfl, Walks.tuple (A := A.in1) hh _ l (Nat.ne_of_lt hll) (intItems xs),
    ⟨⟨_, Heap.get?_push_size _ rfl, rfl, rfl⟩, hl.push _⟩, fun c hc => ?_, by simpa [intItems] using hne, CmpOf.ints_lt (numAt xs) (fun _ _ => intItems_at), fun v h' tk hP hk => ?_⟩
  · show c < (s.heap.push _).objs.size
    rw [Heap.size_push]
    rcases List.mem_cons.mp hc with rfl | hc
    · exact Nat.lt_succ_self _
    · rcases List.mem_cons.mp hc with rfl | hc
      · exact Nat.lt_succ_of_lt hll
      · cases hc
  · refine h v h' tk (by simpa [intItems] using hP) fun b o e => hk b o (fun hm => ?_) (Heap.get?_push_of_some _ e)
    have e2 := List.mem_singleton.mp hm
    have h3 := Heap.lt_size e
    rw [e2] at h3
    exact absurd h3 (Nat.lt_irrefl _)
end
theorem zip_no_len : typeLookup (.type "zip") "__len__" = pure none := am_miss_of_fast (by decide +kernel)
theorem zip_no_hint : typeLookup (.type "zip") "__length_hint__" = pure none := am_miss_of_fast (by decide +kernel)
end BkZip
end PySem
namespace BkG
open PySem PySem.Spec PyProof.Rows L2
/-! ### max, min of a tuple of ints -/
def rMaxT (K : PySem.W.Frag) : List V → Hp → VK → Prop := fun vs H Q => ∃ (a : Addr) (ns : List Int), vs = [V.ref a] ∧ SqT K H a (ns.map V.int) ∧ 0 < ns.length ∧ ∀ m, m ∈ ns → (∀ y, y ∈ ns → y ≤ m) → Q (.int m) H
def rMinT (K : PySem.W.Frag) : List V → Hp → VK → Prop := fun vs H Q => ∃ (a : Addr) (ns : List Int), vs = [V.ref a] ∧ SqT K H a (ns.map V.int) ∧ 0 < ns.length ∧ ∀ m, m ∈ ns → (∀ y, y ∈ ns → m ≤ y) → Q (.int m) H
theorem cr_maxT {X : Cx} (hc : X.calm = true) : CallR X (.builtin "max") (rMaxT X.K) := by
  intro pins s σ H vs us Q I r h
  obtain ⟨a, ns, rfl, hs, hne, q⟩ := h
  obtain ⟨its, rv, hl, _⟩ := I.tuple hs
  rw [Vals.ref1 r]
  have hi := rv.ints
  obtain ⟨xs, e⟩ := hi.allInts.items
  have hn : numsOf (intItems xs).toList = ns := by rw [← e]; exact hi.numsOf
  rw [nums_intItems] at hn
  subst hn
  have hl' : s.heap.IsTuple a its.toArray := hl
  rw [e] at hl'
  have hsz : 0 < xs.size := by simpa using hne
  refine PySem.BkZip.max_intTup (I.ok.hd hc) hl' hl.lt hsz fun v h' tk hv hk => ?_
  obtain ⟨t, rfl⟩ := intItems_at hv
  obtain ⟨h1, h2⟩ := argBest_gt (numAt xs) (xs.size - 1)
  refine ⟨.int _, H, I.kept hk, ⟨_, rfl⟩, q _ ?_ fun b hb => ?_⟩
  · rw [numAt_eq]; exact PySem.getD_mem (by rw [List.length_map, Array.length_toList]; omega)
  · obtain ⟨j, hj, rfl⟩ := mem_getD hb
    rw [List.length_map, Array.length_toList] at hj
    rw [← numAt_eq]; exact h2 j (by omega)
theorem cr_minT {X : Cx} (hc : X.calm = true) : CallR X (.builtin "min") (rMinT X.K) := by
  intro pins s σ H vs us Q I r h
  obtain ⟨a, ns, rfl, hs, hne, q⟩ := h
  obtain ⟨its, rv, hl, _⟩ := I.tuple hs
  rw [Vals.ref1 r]
  have hi := rv.ints
  obtain ⟨xs, e⟩ := hi.allInts.items
  have hn : numsOf (intItems xs).toList = ns := by rw [← e]; exact hi.numsOf
  rw [nums_intItems] at hn
  subst hn
  have hl' : s.heap.IsTuple a its.toArray := hl
  rw [e] at hl'
  have hsz : 0 < xs.size := by simpa using hne
  refine PySem.BkZip.min_intTup (I.ok.hd hc) hl' hl.lt hsz fun v h' tk hv hk => ?_
  obtain ⟨t, rfl⟩ := intItems_at hv
  obtain ⟨h1, h2⟩ := argBest_lt (numAt xs) (xs.size - 1)
  refine ⟨.int _, H, I.kept hk, ⟨_, rfl⟩, q _ ?_ fun b hb => ?_⟩
  · rw [numAt_eq]; exact PySem.getD_mem (by rw [List.length_map, Array.length_toList]; omega)
  · obtain ⟨j, hj, rfl⟩ := mem_getD hb
    rw [List.length_map, Array.length_toList] at hj
    rw [← numAt_eq]; exact h2 j (by omega)
/-! ### list(zip(two lists)) -/
section
variable {X : Cx} {pins : List (Addr × Obj)} {σ : L2.St} {H : Hp} {s : Shared} {z TI TO i1 i2 a b q : Addr}
theorem fp_mv {H H' : Hp} {c : Addr} (f : FpOk X pins H c) (n : H' c = none) : FpOk X pins H' c := ⟨n, f.2⟩
/-- the zip at z, i pairs drawn; the list at q is none of its parts -/
def ZS (z TI TO i1 i2 a b q : Addr) (i : Nat) (h : Heap) : Prop := IsPair h TI (.ref i1) (.ref i2) ∧ h.IsListIter i1 a i ∧ h.IsListIter i2 b i ∧ (∃ oO, h.get? TO = some oO) ∧
  ((IsZip h z TI TO .none ∧ ∃ x y, IsPair h TO x y) ∨ ∃ T f oT, IsZipHeld h z TI TO T f ∧ h.get? T = some oT ∧ T ≠ z ∧ T ≠ i1 ∧ T ≠ i2 ∧ T ≠ q)
theorem ZS.keep {i : Nat} {h h' : Heap} (st : ZS z TI TO i1 i2 a b q i h) (n1 : TI ≠ q) (n2 : i1 ≠ q) (n3 : i2 ≠ q) (n4 : z ≠ q) (n5 : TO ≠ q) (k : ∀ c o, c ≠ q → h.get? c = some o → h'.get? c = some o) : ZS z TI TO i1 i2 a b q i h' := by
  obtain ⟨hTI, h1, h2, ⟨oO, hO⟩, hz⟩ := st
  refine ⟨k _ _ n1 hTI, h1.at fun o e => k _ o n2 e, h2.at fun o e => k _ o n3 e, ⟨oO, k _ _ n5 hO⟩, ?_⟩
  rcases hz with ⟨hz, x, y, hTO⟩ | ⟨T, f, oT, hz, hT, r1, r2, r3, r4⟩
  · exact .inl ⟨k _ _ n4 hz, x, y, k _ _ n5 hTO⟩
  · exact .inr ⟨T, f, oT, k _ _ n4 hz, k _ _ r4 hT, r1, r2, r3, r4⟩
/-- the list made so far: pairs -/
def ZL (H0 H : Hp) (q : Addr) (xs ys : List V) (ts : List Addr) : Prop := Ex H0 H ∧ H q = some (.lst (ts.map V.ref)) ∧ ∀ (i : Nat) (x y : V) (t : Addr), xs[i]? = some x → ys[i]? = some y → ts[i]? = some t → H t = some (.tup [x, y])
theorem zl_loop {A1 : Around} {H0 : Hp} {xs ys : List V} {Rs : Result → Shared → Prop} (hh : A1.in1.handled = none) (D : ZipApart z TI TO i1 i2 a b) (hq0 : H0 q = none) (hlen : xs.length = ys.length) (hz : xs.length ≤ sizeLine) (hx0 : SqL X.K H0 a xs) (hy0 : SqL X.K H0 b ys)
    (nq : q ≠ z ∧ q ≠ TI ∧ q ≠ TO ∧ q ≠ i1 ∧ q ≠ i2) (hdone : ∀ ts H s, Inv X pins σ H s → ts.length = xs.length → ZL H0 H q xs ys ts → Rs (.ok (.ret .none)) s) :
    ∀ (k i : Nat) (s : Shared) (H : Hp) (ts : List Addr), i + k = xs.length → Inv X pins σ H s → (∀ c ∈ [z, TO, i1, i2], FpOk X pins H c) → ZS z TI TO i1 i2 a b q i s.heap → ts.length = i → ZL H0 H q xs ys ts →
      codeAny (model X.prog X.w) A1 (.builtin "list.extend.loop" ⟨[.ref q, .ref z, .none], []⟩) Rs s := by
  intro k
  induction k with
  | zero =>
    intro i s H ts hik I hf st hts L
    refine codeAny_builtin PySem.F.entry_extend_loop ?_
    rw [Around.under_plainId PySem.F.plain_extend_loop _]
    show wpAny _ A1.in1 (pyNext (.ref z) >>= _) _ _ s
    obtain ⟨hTI, h1, h2, ⟨oO, hO⟩, hzz⟩ := st
    obtain ⟨its, rv, p, _⟩ := I.list (L.1.sqL hx0)
    obtain ⟨its2, rv2, p2, _⟩ := I.list (L.1.sqL hy0)
    have l1 := rv.length
    have hend : its.toArray[i]? = none ∨ its2.toArray[i]? = none := .inl (by simp; omega)
    have fin : ∀ h' : Heap, (∀ c o, c ∉ [z, TO, i1, i2] → s.heap.get? c = some o → h'.get? c = some o) → Rs (.ok (.ret .none)) { s with heap := h' } := fun h' hk =>
      hdone ts H _ (I.turnedL (t' := s.toks) hk hf) (by omega) L
    rcases hzz with ⟨hzz, x, y, hTO⟩ | ⟨T, f, oT, hzz, hT, r1, r2, r3, r4⟩
    · refine wpAny_bind (wpAny_pyNext_zip_end hh D hzz hTI hTO h1 h2 p.isList p2.isList hend fun h' hk => ?_)
      exact wpAny_pure (fin h' fun c o hc e => hk c o (fun z => hc (by simp [z])) (fun z => hc (by simp [z])) (fun z => hc (by simp [z])) (fun z => hc (by simp [z])) e)
    · refine wpAny_bind (wpAny_pyNext_zip_end_held hh D hzz hT hTI h1 h2 p.isList p2.isList hend fun h' hk => ?_)
      exact wpAny_pure (fin h' fun c o hc e => hk c o (fun z => hc (by simp [z])) (fun z => hc (by simp [z])) (fun z => hc (by simp [z])) e)
  | succ k ih =>
    intro i s H ts hik I hf st hts L
    refine codeAny_builtin PySem.F.entry_extend_loop ?_
    rw [Around.under_plainId PySem.F.plain_extend_loop _]
    show wpAny _ A1.in1 (pyNext (.ref z) >>= _) _ _ s
    obtain ⟨hTI, h1, h2, ⟨oO, hO⟩, hzz⟩ := st
    obtain ⟨its, rv, p, _⟩ := I.list (L.1.sqL hx0)
    obtain ⟨its2, rv2, p2, _⟩ := I.list (L.1.sqL hy0)
    have hix : i < xs.length := by omega
    have hiy : i < ys.length := by omega
    have ex : xs[i]? = some xs[i] := List.getElem?_eq_getElem hix
    have ey : ys[i]? = some ys[i] := List.getElem?_eq_getElem hiy
    obtain ⟨u, hu, ru⟩ := rv.get ex
    obtain ⟨u2, hu2, ru2⟩ := rv2.get ey
    have lt : ∀ {c o}, s.heap.get? c = some o → s.heap.objs.size ≠ c := fun e => Nat.ne_of_gt (Heap.lt_size e)
    have zlt : ∃ o, s.heap.get? z = some o := by
      rcases hzz with ⟨hzz, _⟩ | ⟨T, f, oT, hzz, _⟩
      · exact ⟨_, hzz⟩
      · exact ⟨_, hzz⟩
    have qlt : q < s.heap.objs.size := by
      obtain ⟨_, _, _, _, _, e⟩ := I.lstM L.2.1
      exact Heap.lt_size e
    have nT : ∀ c, c ∈ [z, i1, i2, q] → s.heap.objs.size ≠ c := fun c hc => by
      have e' : c = z ∨ c = i1 ∨ c = i2 ∨ c = q := by simpa using hc
      rcases e' with e | e | e | e
      · rw [e]; obtain ⟨o, e⟩ := zlt; exact lt e
      · rw [e]; obtain ⟨_, e, _⟩ := h1; exact lt e
      · rw [e]; obtain ⟨_, e, _⟩ := h2; exact lt e
      · rw [e]; exact Nat.ne_of_gt qlt
    have step : ∀ h' : Heap, IsPair h' TI (.ref i1) (.ref i2) → h'.IsListIter i1 a (i + 1) → h'.IsListIter i2 b (i + 1) → IsPair h' s.heap.objs.size u u2 → (∃ oO, h'.get? TO = some oO) → (∃ T f oT, IsZipHeld h' z TI TO T f ∧ h'.get? T = some oT ∧ T ≠ z ∧ T ≠ i1 ∧ T ≠ i2 ∧ T ≠ q) →
        (∀ c o, c ∉ [z, TO, i1, i2] → s.heap.get? c = some o → h'.get? c = some o) →
        wpAny (model X.prog X.w) A1.in1 (updateSeq q (·.push (.ref s.heap.objs.size)) >>= fun _ => again (.builtin "list.extend.loop" ⟨[.ref q, .ref z, .none], []⟩))
          (fun fin s' => match fin with | .done f => Rs (.ok f) s' | .again c' => c'.quiet = true ∧ codeAny (model X.prog X.w) A1 c' Rs s') (fun e s' => Rs (.error e) s') { s with heap := h' } := by
      intro h' aTI a1 a2 aT aO az hk
      have new : ObjOk X.prog X.w (upd H s.heap.objs.size (.tup [xs[i], ys[i]])) h' s.heap.objs.size (.tup [xs[i], ys[i]]) :=
        ⟨by show 2 ≤ sizeLine; decide, [u, u2], .cons ru (.cons ru2 .nil), ⟨_, aT, rfl, _, rfl⟩⟩
      have I1 : Inv X pins σ (upd H s.heap.objs.size (.tup [xs[i], ys[i]])) { s with heap := h' } := I.turnedNew (t' := s.toks) hk hf (Nat.le_refl _) new
      have hTn : H s.heap.objs.size = none := I.hok.fresh (Nat.le_refl _)
      have hq1 : upd H s.heap.objs.size (.tup [xs[i], ys[i]]) q = some (.lst (ts.map V.ref)) := by rw [upd_ne (Nat.ne_of_lt qlt)]; exact L.2.1
      obtain ⟨zz, jts, n, r2, hl2, e⟩ := I1.lstM hq1
      rw [List.length_map] at zz hl2
      have I2 := I1.lset (f := (·.push (.ref s.heap.objs.size))) (its' := jts ++ [.ref s.heap.objs.size]) (ys := (ts ++ [s.heap.objs.size]).map V.ref) (t' := s.toks) hq1 e (by simp) (by rw [List.map_append]; exact r2.append (.cons rfl .nil)) (by rw [List.length_map, List.length_append, List.length_singleton]; omega)
      refine wpAny_bind (wpAny_updateSeq e rfl (wpAny_pure ⟨plainId_quiet PySem.F.plain_extend_loop _, ?_⟩) (by rw [List.size_toArray]; omega) (by show (jts.toArray.push _).size ≤ sizeLine + 1; rw [Array.size_push, List.size_toArray]; omega))
      have kq : ∀ c o, c ≠ q → h'.get? c = some o → (h'.update q (Obj.mapSeq (·.push (.ref s.heap.objs.size)))).get? c = some o := fun c o hc e => (Heap.get?_update_other _ _ (Ne.symm hc)).trans e
      refine ih (i + 1) _ _ (ts ++ [s.heap.objs.size]) (by omega) I2 (fun c hc => ?_) (ZS.keep ⟨aTI, a1, a2, aO, .inr az⟩ nq.2.1.symm nq.2.2.2.1.symm nq.2.2.2.2.symm nq.1.symm nq.2.2.1.symm kq) (by simp [hts]) ⟨?_, upd_same, fun j x y t hx hy ht => ?_⟩
      · refine fp_mv (hf c hc) ?_
        have hcq : c ≠ q := by
          have e' : c = z ∨ c = TO ∨ c = i1 ∨ c = i2 := by simpa using hc
          rcases e' with e | e | e | e <;> rw [e]
          · exact nq.1.symm
          · exact nq.2.2.1.symm
          · exact nq.2.2.2.1.symm
          · exact nq.2.2.2.2.symm
        rw [upd_ne hcq]
        have hcs : c ≠ s.heap.objs.size := by
          have e' : c = z ∨ c = TO ∨ c = i1 ∨ c = i2 := by simpa using hc
          rcases e' with e | e | e | e
          · rw [e]; exact (nT z (by simp)).symm
          · rw [e]; exact (lt hO).symm
          · rw [e]; exact (nT i1 (by simp)).symm
          · rw [e]; exact (nT i2 (by simp)).symm
        rw [upd_ne hcs]
        exact (hf c hc).1
      · exact fun c o hc => by
          have h0 := L.1 _ _ hc
          rw [upd_ne (ne_of_none hc hq0), upd_ne (ne_of_none h0 hTn)]
          exact h0
      · by_cases hj : j < i
        · rw [List.getElem?_append_left (by omega)] at ht
          have h0 := L.2.2 j x y t hx hy ht
          rw [upd_ne (fun e => by rw [e, L.2.1] at h0; cases h0), upd_ne (ne_of_none h0 hTn)]
          exact h0
        · rw [List.getElem?_append_right (by omega), hts] at ht
          have hji : j = i := by
            have := (List.getElem?_eq_some_iff.mp ht).1
            simp at this
            omega
          subst hji
          rw [Nat.sub_self] at ht
          cases ht
          rw [ex] at hx; rw [ey] at hy
          cases hx; cases hy
          rw [upd_ne (Nat.ne_of_gt qlt)]
          exact upd_same
    rcases hzz with ⟨hzz, x, y, hTO⟩ | ⟨T, f, oT, hzz, hT, r1, r2, r3, r4⟩
    · refine wpAny_bind (wpAny_pyNext_zip_item D hzz hTI hTO h1 h2 p.isList p2.isList (x := u) (y := u2) (by simpa using hu) (by simpa using hu2) fun h' a1 a2 a3 a4 a5 a6 hk => ?_)
      exact step h' (hk _ _ D.TIz D.TITO D.TIi1 D.TIi2 hTI) a3 a4 a5 ⟨_, a2⟩ ⟨s.heap.objs.size, false, _, a1, a5, nT z (by simp), nT i1 (by simp), nT i2 (by simp), nT q (by simp)⟩
        fun c o hc e => hk c o (fun z => hc (by simp [z])) (fun z => hc (by simp [z])) (fun z => hc (by simp [z])) (fun z => hc (by simp [z])) e
    · refine wpAny_bind (wpAny_pyNext_zip_item_held D hzz hT hTI h1 h2 p.isList p2.isList (x := u) (y := u2) (by simpa using hu) (by simpa using hu2) fun h' a1 a3 a4 a5 a6 hk => ?_)
      exact step h' (hk _ _ D.TIz D.TIi1 D.TIi2 hTI) a3 a4 a5 ⟨oO, hk _ _ D.TOz D.TOi1 D.TOi2 hO⟩ ⟨T, true, oT, a1, hk _ _ r1 r2 r3 hT, r1, r2, r3, r4⟩
        fun c o hc e => hk c o (fun z => hc (by simp [z])) (fun z => hc (by simp [z])) (fun z => hc (by simp [z])) e

theorem zl_hint {M : Model} {A : Around} {E : Value → Shared → Prop} {Q : Bool → Shared → Prop} (hT : s.TypeIs (.ref z) "zip") (h : Q true s) : wpAny M A (Builtin.List.listLengthHint (.ref z)) Q E s := by
  unfold Builtin.List.listLengthHint
  refine wpAny_bind (wpAny_specialOf hT PySem.BkZip.zip_no_len ?_)
  show wpAny _ A (specialOf (Value.ref z) (Str.ofString "__length_hint__") >>= _) _ _ _
  refine wpAny_bind (wpAny_specialOf hT PySem.BkZip.zip_no_hint ?_)
  exact wpAny_pure h
theorem call_listZip {Q : VK} {xs ys : List V} (hc : X.calm = true) (I : Inv X pins σ H s) (D : ZipApart z TI TO i1 i2 a b) (hz : IsZip s.heap z TI TO .none) (hTI : IsPair s.heap TI (.ref i1) (.ref i2)) (hTO : ∃ x y, IsPair s.heap TO x y) (h1 : s.heap.IsListIter i1 a 0) (h2 : s.heap.IsListIter i2 b 0)
    (hf : ∀ c ∈ [z, TO, i1, i2], FpOk X pins H c) (hlen : xs.length = ys.length) (hx0 : SqL X.K H a xs) (hy0 : SqL X.K H b ys)
    (q : ∀ l H2 ts, H l = none → ts.length = xs.length → ZL H H2 l xs ys ts → Q (.ref l) H2) :
    wpAny (model X.prog X.w) X.A (call (.type "list") [.ref z]) (fun r s' => ∃ v H', Inv X pins σ H' s' ∧ RelV v r ∧ Q v H') X.xe s := by
  obtain ⟨_, _, _, hlz⟩ := I.list hx0
  refine callType_codes (Q₁ := fun obj s₁ => obj = .ref s.heap.objs.size ∧ s₁ = { s with heap := s.heap.push { cls := .type "list", data := .seq #[] } }) PySem.F.called_list (PySem.F.typeCall_list_1 _) PySem.F.entry_list_init
    (code_list_new _ ⟨rfl, rfl⟩) fun obj s₁ h₁ => ?_
  obtain ⟨rfl, rfl⟩ := h₁
  have hS : (s.heap.push { cls := .type "list", data := .seq #[] }).get? s.heap.objs.size = some { cls := .type "list", data := .seq #[] } := Heap.get?_push_size _ rfl
  refine ⟨⟨_, hS, rfl⟩, PySem.F.args_list_init_2 _ _, ?_⟩
  have fr : H s.heap.objs.size = none := I.hok.fresh (Nat.le_refl _)
  have I1 : Inv X pins σ (upd H s.heap.objs.size (.lst [])) { s with heap := s.heap.push { cls := .type "list", data := .seq #[] } } := I.lnew (its := []) (t' := s.toks) .nil (Nat.zero_le _)
  show wpAny _ _ (do let old ← Builtin.List.listItems (.ref s.heap.objs.size); Builtin.List.listUpdate (.ref s.heap.objs.size) (fun _ => #[]); letGo old.toList.reverse; Builtin.List.listExtendWith (.ref s.heap.objs.size) (.ref z) .none) _ _ _
  refine wpAny_bind ?_
  unfold Builtin.List.listItems
  refine wpAny_bind (wpAny_seqItems hS rfl (wpAny_pure ?_))
  show wpAny _ _ (updateSeq s.heap.objs.size (fun _ => #[]) >>= fun _ => letGo (#[] : Array Value).toList.reverse >>= fun _ => Builtin.List.listExtendWith (.ref s.heap.objs.size) (.ref z) .none) _ _ _
  refine wpAny_bind (wpAny_updateSeq hS rfl ?_)
  have I2 := I1.lset (f := fun _ => #[]) (its := []) (its' := []) (ys := []) (t' := s.toks) upd_same hS rfl .nil (Nat.zero_le _)
  rw [upd_upd] at I2
  refine wpAny_bind (wpAny_letGo ?_)
  obtain ⟨p, hp⟩ : ∃ p, p = s.heap.objs.size := ⟨_, rfl⟩
  have lt : ∀ {c o}, s.heap.get? c = some o → p ≠ c := fun e => by rw [hp]; exact Nat.ne_of_gt (Heap.lt_size e)
  have nz : p ≠ z := lt hz
  have nTI : p ≠ TI := lt hTI
  have nTO : p ≠ TO := by obtain ⟨x, y, e⟩ := hTO; exact lt e
  have n1 : p ≠ i1 := by obtain ⟨_, e, _⟩ := h1; exact lt e
  have n2 : p ≠ i2 := by obtain ⟨_, e, _⟩ := h2; exact lt e
  have ZS0 : ZS z TI TO i1 i2 a b p 0 s.heap := ⟨hTI, h1, h2, (by obtain ⟨x, y, e⟩ := hTO; exact ⟨_, e⟩), .inl ⟨hz, hTO⟩⟩
  rw [← hp] at I2 fr hS ⊢
  have k0 : ∀ c o, c ≠ p → s.heap.get? c = some o → ((s.heap.push { cls := .type "list", data := .seq #[] }).update p (Obj.mapSeq fun _ => #[])).get? c = some o := fun c o hcp e =>
    (Heap.get?_update_other _ _ (Ne.symm hcp)).trans (Heap.get?_push_of_some _ e)
  have ZS1 := ZS0.keep nTI.symm n1.symm n2.symm nz.symm nTO.symm k0
  generalize hs' : ({ s with heap := (s.heap.push { cls := .type "list", data := .seq #[] }).update p (Obj.mapSeq fun _ => #[]) } : Shared) = s' at I2 ⊢
  have hh' : s'.heap = (s.heap.push { cls := .type "list", data := .seq #[] }).update p (Obj.mapSeq fun _ => #[]) := by rw [← hs']
  rw [← hh'] at ZS1
  have hzz : IsZip s'.heap z TI TO .none := by rw [hh']; exact k0 _ _ nz.symm hz
  have hT : s'.TypeIs (.ref z) "zip" := ⟨_, hzz, rfl⟩
  have hTok : Inv X pins σ (upd H p (.lst [])) s' := I2
  clear I2 k0 ZS0
  have hfp : ∀ c ∈ [z, TO, i1, i2], FpOk X pins (upd H p (.lst [])) c := fun c hcm => by
    refine fp_mv (hf c hcm) ?_
    have hne : c ≠ p := by
      have e' : c = z ∨ c = TO ∨ c = i1 ∨ c = i2 := by simpa using hcm
      rcases e' with e | e | e | e <;> rw [e]
      · exact nz.symm
      · exact nTO.symm
      · exact n1.symm
      · exact n2.symm
    rw [upd_ne hne]
    exact (hf c hcm).1
  have L0 : ZL H (upd H p (.lst [])) p xs ys [] := ⟨Ex.new fr, upd_same, fun i x y t _ _ ht => by cases ht⟩
  have loop : ∀ (s2 : Shared), Inv X pins σ (upd H p (.lst [])) s2 → ZS z TI TO i1 i2 a b p 0 s2.heap →
      codeAny (model X.prog X.w) X.A.in1 (.builtin "list.extend.loop" ⟨[.ref p, .ref z, .none], []⟩) (wants (fun r s₂ => r = .none ∧ ∃ v H', Inv X pins σ H' s₂ ∧ RelV v (.ref p) ∧ Q v H') X.xe) s2 := fun s2 J st2 =>
    zl_loop (A1 := X.A.in1) (show X.A.in1.in1.handled = none from I.ok.hd hc) D fr hlen hlz hx0 hy0 ⟨nz, nTI, nTO, n1, n2⟩ (fun ts H3 s3 J3 hl3 L3 => ⟨rfl, .ref p, H3, J3, rfl, q p H3 ts fr hl3 L3⟩) xs.length 0 s2 _ [] (by omega) J hfp st2 rfl L0
  unfold Builtin.List.listExtendWith
  refine wpAny_bind (wpAny_typeOf hT ?_)
  have g1 : Builtin.List.listSameRef (.ref p) (.ref z) = false := by simp [Builtin.List.listSameRef, nz]
  have g2 : (Value.type "zip" == Value.type "list") = false := by decide
  have g3 : (Value.type "zip" == Value.type "tuple") = false := by decide
  simp only [g1, g2, g3, Bool.or_false, Bool.false_eq_true, if_false]
  refine wpAny_bind (wpAny_pyIter_zip hzz ?_)
  refine wpAny_bind (wpAny_holding (zl_hint hT ?_))
  obtain ⟨zz, its, kk, r3, hl3, e3⟩ := hTok.lstM (l := p) upd_same
  cases r3
  show wpAny _ _ (rule "list.extend.makes-room" >>= fun _ => Builtin.List.listTouch (.ref p) >>= fun _ => again (.builtin "list.extend.loop" ⟨[.ref p, .ref z, .none], []⟩)) _ _ _
  refine wpAny_bind (wpAny_rule ?_)
  refine wpAny_bind ?_
  show wpAny _ _ (updateSeq p (·.push .none) >>= fun _ => updateSeq p (·.pop)) _ _ _
  refine wpAny_bind (wpAny_updateSeq e3 rfl ?_)
  have J2 := hTok.lset (f := (·.push Value.none)) (its' := [Value.none]) (ys := [.non]) (t' := s'.toks) upd_same e3 (by simp) (.cons rfl .nil) (by rw [List.length_singleton, sizeLine_eq]; decide)
  obtain ⟨z4, its4, k4, r4, hl4, e4⟩ := J2.lstM (l := p) upd_same
  obtain ⟨u4, rfl, ru4⟩ := r4.one
  refine wpAny_updateSeq e4 rfl ?_ (by show 1 ≤ sizeLine; rw [sizeLine_eq]; decide) (by show 0 ≤ sizeLine + 1; exact Nat.zero_le _)
  refine wpAny_pure ⟨plainId_quiet PySem.F.plain_extend_loop _, loop _ ?_ ?_⟩
  · have J3 := J2.lset (f := (·.pop)) (its := [u4]) (its' := []) (ys := []) (t' := s'.toks) upd_same e4 (by rfl) .nil (Nat.zero_le _)
    rw [upd_upd, upd_upd] at J3
    exact J3
  · exact ZS1.keep nTI.symm n1.symm n2.symm nz.symm nTO.symm fun c o hcp e => (Heap.get?_update_other _ _ (Ne.symm hcp)).trans ((Heap.get?_update_other _ _ (Ne.symm hcp)).trans e)
/-- list(zip(e, e2)) of two lists of one length -/
def aZip (K : PySem.W.Frag) (Q : VK) : List V → Hp → Prop := fun vs H1 => ∃ a b xs ys, vs = [.ref a, .ref b] ∧ SqL K H1 a xs ∧ SqL K H1 b ys ∧ xs.length = ys.length ∧ ∀ l H2 ts, H1 l = none → ts.length = xs.length → ZL H1 H2 l xs ys ts → Q (.ref l) H2
def tLstZip (K : PySem.W.Frag) (ta : TA) : TE := fun σ H Q => ta σ H (aZip K Q)
theorem w_lstZip {K : PySem.W.Frag} {ta : TA} {Q : VK} (h : ta σ H (aZip K Q)) : tLstZip K ta σ H Q := h
theorem pe_lstZip {e e2 : Expr} {ta : TA} {p pos p2 pos2 : Pos} (hc : X.calm = true) (hg : Gl X "list") (hm : X.mg "list" = none) (hg2 : Gl X "zip") (hm2 : X.mg "zip" = none) (ha : PA X [e, e2] ta)
    (na : starEach [.Call (.Name "zip" p2) [e, e2] [] pos2] X.env = (false, eval (.Call (.Name "zip" p2) [e, e2] [] pos2) X.env) :: starEach [] X.env := by rfl)
    (hs : starEach [e, e2] X.env = (false, eval e X.env) :: starEach [e2] X.env := by rfl) (hpl : (backTo pos2 (starEach [e2] X.env)).any (·.1) = false := by rfl) :
    PE X (.Call (.Name "list" p) [.Call (.Name "zip" p2) [e, e2] [] pos2] [] pos) (tLstZip X.K ta) := by
  refine ⟨fun pins s σ H Q I h => ?_⟩
  refine Call_ (ld_blt I hg hm boot_list (PyProof.Rows.callWith_type1 (args_cons (?_) na) na))
  refine Call_ (ld_blt I hg2 hm2 PyProof.Rows.boot_zip (PyProof.Rows.callWith_type1 (thn (ha.run pos2 pins s σ H _ I h) fun us s1 ⟨vs, H1, I1, r1, q1⟩ => ?_) hs hpl))
  obtain ⟨a, b, xs, ys, ex, hqx, hqy, hlen, q⟩ := q1
  subst ex
  cases r1 with
  | cons r rr =>
    cases rr with
    | cons r' rr =>
      cases rr
      cases r
      cases r'
      have fresh5 : ∀ c, c ∈ [s1.heap.objs.size + 4, s1.heap.objs.size + 3, s1.heap.objs.size, s1.heap.objs.size + 1] → FpOk X pins H1 c := fun c hcm => by
        have e' : c = s1.heap.objs.size + 4 ∨ c = s1.heap.objs.size + 3 ∨ c = s1.heap.objs.size ∨ c = s1.heap.objs.size + 1 := by simpa using hcm
        have hle : s1.heap.objs.size ≤ c := by
          rcases e' with z | z | z | z
          · rw [z]; exact Nat.le_add_right _ _
          · rw [z]; exact Nat.le_add_right _ _
          · rw [z]; exact Nat.le_refl _
          · rw [z]; exact Nat.le_add_right _ _
        exact I1.fpOk hle (I1.hok.fresh hle)
      obtain ⟨its, rv, p1, _⟩ := I1.list hqx
      obtain ⟨its2, rv2, p2', _⟩ := I1.list hqy
      refine call_zip_2 p1.isList p2'.isList fun h' hz hTI hTO h1 h2 hsz hk => ?_
      have I2 : Inv X pins σ H1 { s1 with heap := h' } := I1.kept (t' := s1.toks) hk
      refine args_nil ?_
      exact call_listZip hc I2 (PySem.W.ktu_apart s1.heap.objs.size a b p1.lt p2'.lt) hz hTI ⟨_, _, hTO⟩ h1 h2 fresh5 hlen hqx hqy q
end
end BkG
namespace BkG
open PySem PySem.Spec L2
/-! ### what two words tell, in plain Lean -/
def opV : Nat → Str
  | 0 => "add" | 1 => "sub" | 2 => "mul" | 3 => "mix" | 4 => "both" | 5 => "any" | 6 => "same" | 7 => "less" | 8 => "div" | _ => "mod"
def opF (w : Nat) : Nat → Int → Int → Int
  | 0, a, b => (a + b) % 2 ^ w
  | 1, a, b => (a - b) % 2 ^ w
  | 2, a, b => (a * b) % 2 ^ w
  | 3, a, b => Builtin.bitXor a b
  | 4, a, b => Builtin.bitAnd a b
  | 5, a, b => Builtin.bitOr a b
  | _, a, b => if a = b then 1 else 0
theorem and_nat (a b : Nat) : Builtin.bitAnd (a : Int) (b : Int) = ((a &&& b : Nat) : Int) := by simp [Builtin.bitAnd]
theorem opF3 (w : Nat) (a b : Int) : opF w 3 a b = Builtin.bitXor a b := rfl
theorem opF4 (w : Nat) (a b : Int) : opF w 4 a b = Builtin.bitAnd a b := rfl
theorem opF5 (w : Nat) (a b : Int) : opF w 5 a b = Builtin.bitOr a b := rfl
theorem opF_wd {w k : Nat} {a b : Int} (hw : 1 ≤ w) (ha : Wd w a) (hb : Wd w b) : Wd w (opF w k a b) := by
  obtain ⟨x, rfl, hx⟩ := ha.nat
  obtain ⟨y, rfl, hy⟩ := hb.nat
  match k with
  | 0 => exact Wd.mod _ _
  | 1 => exact Wd.mod _ _
  | 2 => exact Wd.mod _ _
  | 3 => exact xor_wd (.of_nat hx) (.of_nat hy)
  | 4 => rw [opF4, and_nat]; exact .of_nat (Nat.and_lt_two_pow _ hy)
  | 5 => rw [opF5, or_nat]; exact .of_nat (Nat.or_lt_two_pow hx hy)
  | _ + 6 =>
    have h1 : (1 : Int) < 2 ^ w := by
      have h : (2 : Int) ^ 1 ≤ 2 ^ w := by
        rw [← pow_cast, ← pow_cast]
        exact_mod_cast Nat.pow_le_pow_right (by decide) hw
      have e : (2 : Int) ^ 1 = 2 := by decide
      omega
    show Wd w (if _ then 1 else 0)
    split
    · exact ⟨by decide, h1⟩
    · exact ⟨by decide, pow_pos' w⟩
/-! the same beside a lesser width -/
theorem pow_dvd' {s w : Nat} (h : s ≤ w) : (2 : Int) ^ s ∣ 2 ^ w := by
  obtain ⟨r, rfl⟩ : ∃ r, w = s + r := ⟨w - s, by omega⟩
  rw [Int.pow_add]; exact Int.dvd_mul_right _ _
theorem mod_mod' {s w : Nat} {a : Int} (h : s ≤ w) : a % 2 ^ w % 2 ^ s = a % 2 ^ s := Int.emod_emod_of_dvd _ (pow_dvd' h)
theorem natmod {x s : Nat} : ((x : Int) % 2 ^ s) = ((x % 2 ^ s : Nat) : Int) := by rw [← pow_cast, Int.natCast_emod]
theorem opF_less {w s k : Nat} {a b : Int} (h : s ≤ w) (hk : k < 6) (ha : Wd w a) (hb : Wd w b) : opF w k a b % 2 ^ s = opF s k (a % 2 ^ s) (b % 2 ^ s) := by
  obtain ⟨x, rfl, hx⟩ := ha.nat
  obtain ⟨y, rfl, hy⟩ := hb.nat
  match k with
  | 0 => show (_ % _ % _ : Int) = _ % _; rw [mod_mod' h, Int.add_emod]
  | 1 => show (_ % _ % _ : Int) = _ % _; rw [mod_mod' h, Int.sub_emod]
  | 2 => show (_ % _ % _ : Int) = _ % _; rw [mod_mod' h, Int.mul_emod]
  | 3 => rw [opF3, opF3, xor_nat, natmod, natmod, natmod, xor_nat, Nat.xor_mod_two_pow]
  | 4 => rw [opF4, opF4, and_nat, natmod, natmod, natmod, and_nat, Nat.and_mod_two_pow]
  | 5 => rw [opF5, opF5, or_nat, natmod, natmod, natmod, or_nat, Nat.or_mod_two_pow]
  | _ + 6 => omega
/-- one number alone undoes an odd one -/
theorem back_unique {s : Nat} {f g n : Int} (hf : (2 : Int) ^ s ∣ f * n - 1) (hg : (2 : Int) ^ s ∣ g * n - 1) : f % 2 ^ s = g % 2 ^ s := by
  obtain ⟨c, hc⟩ := hf
  obtain ⟨d, hd⟩ := hg
  have e : f - g = 2 ^ s * (c * g - d * f) := by
    have h1 : f * n = 2 ^ s * c + 1 := by omega
    have h2 : g * n = 2 ^ s * d + 1 := by omega
    have a1 : f * n * g = 2 ^ s * (c * g) + g := by rw [h1, Int.add_mul, Int.mul_assoc, Int.one_mul]
    have a2 : g * n * f = 2 ^ s * (d * f) + f := by rw [h2, Int.add_mul, Int.mul_assoc, Int.one_mul]
    have a3 : f * n * g = g * n * f := by rw [Int.mul_assoc, Int.mul_comm f, Int.mul_comm n g]
    rw [Int.mul_sub]
    omega
  exact Int.emod_eq_emod_iff_emod_sub_eq_zero.mpr (Int.emod_eq_zero_of_dvd (by rw [e]; exact Int.dvd_mul_right _ _))
theorem back_less {w s : Nat} {n : Int} (hs : 1 ≤ s) (h : s ≤ w) (hn : n % 2 ≠ 0) : backOf w n w % 2 ^ s = backOf s n s := by
  have h1 := back_dvd (w := w) (by omega) hn
  have h2 := back_dvd hs hn
  rw [back_unique (Int.dvd_trans (pow_dvd' h) h1) h2]
  have h3 := backOf_wd (n := n) hs s
  exact Int.emod_eq_of_lt h3.1 h3.2
/-! both, any, together -/
theorem both_any (a b : Nat) : (a &&& b) + (a ||| b) = a + b := by
  have h : ∀ (n a b : Nat), a ≤ n → (a &&& b) + (a ||| b) = a + b := by
    intro n
    induction n with
    | zero => intro a b h; have : a = 0 := by omega
              subst this; simp
    | succ n ih =>
      intro a b h
      by_cases h0 : a = 0
      · subst h0; simp
      · have h := ih (a / 2) (b / 2) (by omega)
        have e1 := bit_split (a ||| b)
        have e3 := bit_split (a &&& b)
        rw [Nat.or_div_two, Nat.testBit_or] at e1
        rw [Nat.and_div_two, Nat.testBit_and] at e3
        have ea := bit_split a
        have eb := bit_split b
        cases ha : a.testBit 0 <;> cases hb : b.testBit 0 <;> rw [ha, hb] at e1 e3 <;> rw [ha] at ea <;> rw [hb] at eb <;> simp at e1 e3 ea eb <;> omega
  exact h a a b (Nat.le_refl _)
theorem plus_both {w : Nat} {a b : Int} (ha : Wd w a) (hb : Wd w b) : opF w 4 a b + opF w 5 a b = a + b := by
  obtain ⟨x, rfl, hx⟩ := ha.nat
  obtain ⟨y, rfl, hy⟩ := hb.nat
  rw [opF4, opF5, and_nat, or_nat]
  have := both_any x y
  omega
theorem minus_both {w : Nat} {a b : Int} (ha : Wd w a) (hb : Wd w b) : (opF w 5 a b - opF w 4 a b) % 2 ^ w = Builtin.bitXor a b := by
  have h := xor_wd ha hb
  obtain ⟨x, rfl, hx⟩ := ha.nat
  obtain ⟨y, rfl, hy⟩ := hb.nat
  have e : opF w 5 (x : Int) (y : Int) - opF w 4 x y = Builtin.bitXor (x : Int) (y : Int) := by
    rw [opF4, opF5, and_nat, or_nat, xor_nat]
    have := nat_or_and x y
    omega
  rw [e]
  exact Int.emod_eq_of_lt h.1 h.2
theorem same_both {w : Nat} {a b : Int} (ha : Wd w a) (hb : Wd w b) : opF w 4 a b = opF w 5 a b ↔ a = b := by
  obtain ⟨x, rfl, hx⟩ := ha.nat
  obtain ⟨y, rfl, hy⟩ := hb.nat
  rw [opF4, opF5, and_nat, or_nat]
  constructor
  · intro e
    have e' : x &&& y = x ||| y := by omega
    have h1 := nat_or_and x y
    have h2 : x ^^^ y = 0 := by omega
    have h3 : x = y := by
      have : (x ^^^ y) ^^^ y = 0 ^^^ y := by rw [h2]
      rw [Nat.xor_assoc, Nat.xor_self, Nat.xor_zero, Nat.zero_xor] at this
      exact this
    rw [h3]
  · intro e
    have e' : x = y := by omega
    subst e'; simp
/-! bits -/
def bitOf (a i : Nat) : Int := ((a / 2 ^ i % 2 : Nat) : Int)
def bitsOf (w a : Nat) : List Int := (List.range w).map (bitOf a)
def numOf (bits : List Int) : Int := bits.foldr (fun b acc => acc * 2 + b) 0
theorem bitOf_eq (a i : Nat) : bitOf a i = if a.testBit i then 1 else 0 := by
  unfold bitOf
  rw [Nat.testBit_eq_decide_div_mod_eq]
  by_cases h : a / 2 ^ i % 2 = 1
  · rw [h, decide_eq_true rfl]; rfl
  · have h0 : a / 2 ^ i % 2 = 0 := by omega
    rw [h0]; rfl
theorem numOf_bits : ∀ (w a : Nat), a < 2 ^ w → numOf (bitsOf w a) = (a : Int)
  | 0, a, h => by have : a = 0 := by simpa using h
                  subst this; rfl
  | w + 1, a, h => by
    have ih := numOf_bits w (a / 2) (by rw [Nat.pow_succ] at h; omega)
    have e : bitsOf (w + 1) a = bitOf a 0 :: bitsOf w (a / 2) := by
      unfold bitsOf
      rw [List.range_succ_eq_map, List.map_cons, List.map_map]
      congr 1
      refine List.map_congr_left fun i _ => ?_
      show bitOf a (i + 1) = bitOf (a / 2) i
      unfold bitOf
      rw [Nat.div_div_eq_div_mul, Nat.pow_succ, Nat.mul_comm]
    rw [e]
    show numOf (bitsOf w (a / 2)) * 2 + bitOf a 0 = _
    rw [ih]
    unfold bitOf
    rw [Nat.pow_zero, Nat.div_one]
    omega
theorem bits_both (a b i : Nat) : min (bitOf a i) (bitOf b i) = bitOf (a &&& b) i := by
  rw [bitOf_eq, bitOf_eq, bitOf_eq, Nat.testBit_and]
  cases a.testBit i <;> cases b.testBit i <;> decide
theorem bits_any (a b i : Nat) : max (bitOf a i) (bitOf b i) = bitOf (a ||| b) i := by
  rw [bitOf_eq, bitOf_eq, bitOf_eq, Nat.testBit_or]
  cases a.testBit i <;> cases b.testBit i <;> decide
theorem bits_mix (a b i : Nat) : (if bitOf a i ≠ bitOf b i then (1 : Int) else 0) = bitOf (a ^^^ b) i := by
  rw [bitOf_eq, bitOf_eq, bitOf_eq, Nat.testBit_xor]
  cases a.testBit i <;> cases b.testBit i <;> decide
theorem bit_01 (a i : Nat) : 0 ≤ bitOf a i ∧ bitOf a i ≤ 1 := by unfold bitOf; omega
/-! ### what the law's helpers promise -/
def spBits : Sp := fun vs H Q _ => ∃ (w a : Nat), vs = [.int w, .int a] ∧ w ≤ 64 ∧ a < 2 ^ 64 ∧ ∀ p H', H p = none → Ex H H' → H' p = some (.lst ((bitsOf w a).map V.int)) → Q (.ref p) H'
def spNumber : Sp := fun vs H Q _ => ∃ (l : Addr) (bs : List Int), vs = [.ref l] ∧ H l = some (.lst (bs.map V.int)) ∧ bs.length ≤ 64 ∧ (∀ b ∈ bs, 0 ≤ b ∧ b ≤ 1) ∧ ∀ H', Ex H H' → Q (.int (numOf bs)) H'
def spTold : Sp := fun vs H Q _ => ∃ (w k : Nat) (a b : Int), vs = [.int w, .str (opV k), .int a, .int b] ∧ 1 ≤ w ∧ w ≤ 64 ∧ k < 6 ∧ Wd w a ∧ Wd w b ∧ ∀ H', Ex H H' → Q (.int (opF w k a b)) H'
def spResult : Sp := fun vs H Q _ => ∃ (w k : Nat) (a b : Int), vs = [.str (opV k), .int w, .int a, .int b] ∧ 1 ≤ w ∧ w ≤ 64 ∧ k < 7 ∧ Wd w a ∧ Wd w b ∧ ∀ H', Ex H H' → Q (.int (opF w k a b)) H'
def spReck : Sp := fun vs H Q _ => ∃ (w k : Nat) (a b : Int), vs = [.int w, .str (opV k), .int a, .int b] ∧ 1 ≤ w ∧ w ≤ 64 ∧ k < 7 ∧ Wd w a ∧ Wd w b ∧ ∀ H', Ex H H' → Q (.int (opF w k a b)) H'
end BkG
namespace PySem
namespace BkErr
open PySem.W PySem.Calls PyProof.Rows PySem.HandSPX
/-! ### an own error with a field: def __init__(self, at): super().__init__(at); self.at = at -/
def iA (p1 p2 : Pos) : Arguments := { posonlyargs := [], args := [{ arg := "self", annotation := none, pos := p1 }, { arg := "at", annotation := none, pos := p2 }], vararg := none, kwonlyargs := [], kw_defaults := [], kwarg := none, defaults := [] }
def iB (p0 p1 p2 p3 p4 p5 q1 q2 q3 q4 : Pos) : List Stmt := [.Expr (.Call (.Attribute (.Call (.Name "super" p0) [] [] p1) "__init__" p2) [.Name "at" p3] [] p4) p5, .Assign [.Attribute (.Name "self" q1) "at" q2] (.Name "at" q3) q4]
def iS : Scope := { kind := .function, names := [(PySem.Str.ofString "self", .local), (PySem.Str.ofString "at", .local), (PySem.Str.ofString "__class__", .free), (PySem.Str.ofString "super", .globalImplicit)], isGenerator := false, isCoroutine := false, more := [] }
/-- what the written part says of the class nm, at C, and of its __init__, at fI -/
structure ErrTxt (P : Program) (K : Frag) (mg : Str → Option Value) (nm : Str) (C fI : Addr) : Prop where
  gC : mg nm = some (.ref C)
  noS : mg "super" = none
  cls : ∃ nm q N bs bm sn sub ab col dd k0 k1 k2 k3 k5, K.lookup C = some (excClassObj nm q C N bs bm true sn sub ab col dd k0 k1 k2 k3 k5 "ValueError.__new__") ∧ refsVE bm = true
  sa : findIn K (.ref C) "__setattr__" = some (some (.builtin "object.__setattr__"))
  ga : findIn K (.ref C) "__getattribute__" = some (some (.builtin "BaseException.__getattribute__"))
  gg : findIn K (.ref C) "__getattr__" = some none
  noN : findIn K (.ref C) "at" = some none
  iC : findIn K (.ref C) "__init__" = some (some (.ref fI))
  tC : typeIn K (.ref fI) = some (.type "function")
  kC : keepIn K (.ref C) = true
  exC : subIn K (.ref C) (.type "BaseException") = some true
  veC : subIn K (.ref C) (.type "ValueError") = some true
  tyC : typeIn K (.ref C) = some (.type "type")
  hdC : hasDictIn K C = true
  te : exmOne K (.ref C) (.ref C) = some true
  mro : mroIn K C (.ref C) = some true
  op : nsIn K cStatics "thirdparty.any" = some none
  sup : ks_superIn K C C "__init__" = some (some (.builtin "ValueError.__init__"))
  fn : ∃ (oc : Value) (od : Option Addr) (qual : Str) (doc pm : Value) (an : Option Addr) (cda cc : Addr) (ct : Value) (osl : Array (Option Value)) (p1' p2' p0 p1 p2 p3 p4 p5 q1 q2 q3 q4 : Pos),
    K.lookup fI = some ⟨oc, od, .func (ksFn "__init__" qual (iA p1' p2') (iB p0 p1 p2 p3 p4 p5 q1 q2 q3 q4) iS .none .none doc pm an (.ref cda) ct cc), osl⟩ ∧ codeIn K (.ref cda) qual = true ∧
    (∃ cl cld csl, K.lookup cc = some ⟨cl, cld, .cell (some (.ref C)), csl⟩) ∧ (p2.endLine == p4.line) = true ∧ ∃ ccl cdd vs ccs file tf, K.lookup cda = some ⟨ccl, cdd, .fields vs, ccs⟩ ∧ vs[2]? = some (.str file tf) ∧ ((P.main.file : Str) == file) = true
  top : (P.main.scope.names.lookup ("super" : Str)).isSome = false
theorem ldC {M : Model} {s : Shared} {name : Str} {scope : Scope} {L a : Addr} {cd : Value} {cc : Addr} {m : Str → Option Value} {x : Str} {pos : Pos} {v : Value} {Q : Value → Shared → Prop} {A : Around} {E : Value → Shared → Prop} (hn : s.heap.Ns L m) (hv : m x = some v) (h : Q v s)
    (hk : scope.kind = .function := by rfl) (hl : (ksEnv name scope L a cd cc).kindOf x = some .local := by rfl) (hd : (x == ("__debug__" : Str)) = false := by decide) :
    wpAny M A (eval (.Name x pos) (ksEnv name scope L a cd cc)) Q E s := wpAny_Name (wpAny_loadName_local hk hl hn hv h) hd
theorem eval_meth {o e : Expr} {name : Str} {apos pos : Pos} {env : Env} (hline : (apos.endLine == pos.line) = true) (he : starEach [e] env = [(false, eval e env)] := by rfl) :
    eval (.Call (.Attribute o name apos) [e] [] pos) env = (do
      let ov ← attributeBase o name env (eval o env)
      standAt apos.atName
      let (f, first) ← holding [ov] (getMethod ov name (do return (← importBound o env).getD true))
      callWith pos f first (backTo pos (starEach [e] env)) []) := by
  have hform : methodCallForm ([e].length + ([] : List Keyword).length) (backTo pos (starEach [e] env)) (backToKw pos (keywordEach [] env)) = true := by rw [he]; rfl
  have hpos : methodCallPos true o env apos pos = pure pos := by unfold methodCallPos; simp [hline]
  show (do
    let ov ← attributeBase o name env (eval o env)
    standAt apos.atName
    methodCall o name apos pos env ov ([e].length + ([] : List Keyword).length) (backTo pos (starEach [e] env)) (backToKw pos (keywordEach [] env))) = _
  unfold methodCall calleeOf
  simp only [hform, hpos, if_true, pure_bind]
  rfl
theorem callWith1 {M : Model} {A : Around} {E : Value → Shared → Prop} {s : Shared} {i : String} {u x : Addr} {pos : Pos} {env : Env} {e : Expr} {rest : List Expr} {Q : Value → Shared → Prop}
    (h : wpAny M A (spliced (backTo pos (starEach (e :: rest) env))) (fun vs s₁ => KxsAt i u x s₁.heap ∧ wpAny M A (call (.ref u) vs) Q E s₁) E s)
    (he : starEach (e :: rest) env = (false, eval e env) :: starEach rest env := by rfl) (hplain : (backTo pos (starEach rest env)).any (·.1) = false := by rfl) :
    wpAny M A (callWith pos (.ref u) [] (backTo pos (starEach (e :: rest) env)) []) Q E s := by
  rw [he] at h ⊢
  refine kxs_callWith (i := i) (x := x) (by show (false || (backTo pos (starEach rest env)).any (·.1)) = false; rw [hplain]; rfl) ?_
  exact evalArgs_plain h
structure InitEnd (h h' : Heap) (x C dx t1 : Addr) (v : Value) : Prop where
  keep : ∀ b o, b ≠ x → h.get? b = some o → h'.get? b = some o
  obj : h'.get? x = some { cls := .ref C, dict := some dx, data := .fields #[.ref t1, .none, .none, .none, .bool false, .none] }
  dbig : h.objs.size ≤ dx
  dne : dx ≠ x
  ns : h'.Ns1 dx (fun y => if y = "at" then some v else none)
structure OwnMade (h h' : Heap) (e C d : Addr) (v : Value) : Prop where
  keep : ∀ b o, h.get? b = some o → h'.get? b = some o
  new : h.objs.size ≤ e
  obj : ∃ oe vs, h'.get? e = some oe ∧ oe.cls = .ref C ∧ oe.dict = some d ∧ oe.data = .fields vs ∧ vs[1]? = some .none
  dbig : h.objs.size ≤ d
  dne : d ≠ e
  ns : h'.Ns1 d (fun y => if y = "at" then some v else none)
theorem one_size (v : Value) : [v].length ≤ sizeLine := by
  rw [sizeLine_eq]
  exact (by decide : 1 ≤ 16777216)
section
variable {prog : Program} {w : World} {A : Around} {E : Value → Shared → Prop} {h : Heap} {g : Array GenState} {d : Drawn} {t : Nat} {os : OsState}
variable {nm q : Str} {C N : Addr} {bs bm : List Value} {hdct : Bool} {sn : List Str} {sub : List Value} {ab : Bool} {col : Option Bool} {dd : Option Addr} {k0 k1 k2 k3 k5 : Option Value}
/-- ValueError.__init__ of the object, called -/
theorem call_mw {u e t0 : Addr} {rest : List Value} {Q : Value → Shared → Prop}
    (hC : h.get? C = some (excClassObj nm q C N bs bm hdct sn sub ab col dd k0 k1 k2 k3 k5 "ValueError.__new__")) (he : h.get? e = some (excO C t0)) (hu : h.get? u = some (kxs_mw "ValueError.__init__" e)) (hrest : rest.length ≤ sizeLine)
    (hq : ∀ h' t1, (∀ b o, b ≠ e → h.get? b = some o → h'.get? b = some o) → h'.get? e = some (excO C t1) → h.objs.size ≤ h'.objs.size → Q .none ⟨h', g, d, t, os⟩) :
    wpAny (model prog w) A (call (.ref u) rest) Q E ⟨h, g, d, t, os⟩ := by
  refine wpAny_call (codeAny_of_tree ?_)
  show wpAny _ A.in1 (callAny (.ref u) ⟨rest, []⟩) _ _ _
  simp only [callAny]
  refine wpAny_bind (wpAny_load hu ?_)
  simp only [kxs_mw, show (Value.type "method-wrapper" == Value.type "method" || Value.type "method-wrapper" == Value.type "builtin_function_or_method" || Value.type "method-wrapper" == Value.type "method-wrapper") = true by decide, if_true]
  refine KFB.if_so (by decide) ?_
  refine wpAny_bind (ESX.check_bound F.excBase_ValueError hC he rfl ?_)
  refine wpAny_bind (wpAny_pure (wpAny_pure ?_))
  refine ⟨plainId_quiet F.excBase_ValueError.init.plain _, codeAny_builtin F.excBase_ValueError.initEntry ?_⟩
  refine exc_init_tree (cls := .ref C) (t0 := t0) (dv := none) (c2 := .none) (c3 := .none) (b4 := .bool false) he hrest fun h' k e1 t1 => ?_
  exact hq h' h.objs.size k e1 (Nat.le_of_lt (Heap.lt_size t1))
end
section
variable {prog : Program} {w : World} {A : Around} {E : Value → Shared → Prop} {R : Result → Shared → Prop} {s : Shared} {K : Frag} {mg mb : Str → Option Value} {nm : Str} {C fI : Addr}
theorem err_init (T : ErrTxt prog K mg nm C fI) {x t0 : Addr} {v : Value} (X : K.In s.heap) (hG : s.heap.Ns mainGlobals mg) (hB : s.heap.Ns builtinsNs mb) (hb : ∀ y : Str, y ≠ "__name__" → mb y = bootBuiltins y) (hlim : s.heap.NoLimit) (hx : s.heap.get? x = some (excO C t0)) (hnx : K.lookup x = none) (hroom : A.depth < recursionLimit)
    (hq : ∀ h' tk dx t1, InitEnd s.heap h' x C dx t1 v → R (.ok (.ret .none)) { s with heap := h', toks := tk }) :
    codeAny (model prog w) A (.call (.ref fI) ⟨[.ref x, v], []⟩) R s := by
  obtain ⟨oc, od, qual, doc, pm, an, cda, cc, ct, osl, p1', p2', p0, p1, p2, p3, p4, p5, q1, q2, q3, q4, ho, hcd, ⟨cl, cld, csl, hcell⟩, hline, ccl, cdd, vs, ccs, file, tf, hcode, hvs, hfile⟩ := T.fn
  obtain ⟨nm', q, N, bs, bm, sn, sub, ab, col, dd, k0, k1, k2, k3, k5, hC, hbm⟩ := T.cls
  have hcl : clsIn K C = some { name := nm', bases := bs, mro := .ref C :: bm, ns := N, qualname := q, hasDict := true, slotNames := sn, subclasses := sub, abstract := ab, collection := col, hasDel := false } := by unfold clsIn; rw [hC] <;> rfl
  refine ks_codeAny_call_defAt (fd := ksFn "__init__" qual (iA p1' p2') (iB p0 p1 p2 p3 p4 p5 q1 q2 q3 q4) iS .none .none doc pm an (.ref cda) ct cc) (body := iB p0 p1 p2 p3 p4 p5 q1 q2 q3 q4) (binds := [("self", .ref x), ("at", v)]) hroom (X _ _ ho) rfl hlim (codeRec_of X hcd) rfl
    (BindsTo.of_eq (by first | rfl | with_unfolding_all rfl)) (show ∀ x ∈ iS.names, x.2 ≠ .cell by decide) (by first | decide | (intro y hy; simp only [List.mem_cons, List.not_mem_nil, or_false] at hy; rcases hy with rfl | rfl <;> rfl)) (fun h₁ hns k => ?_) rfl rfl rfl
  have X₁ : K.In h₁ := X.keeps k
  have hx₁ := k _ _ hx
  have I₁ : InstAt h₁ x (excO C t0) C none := ⟨hx₁, rfl, rfl, trivial⟩
  show wpAt _ _ _ (execs (iB p0 p1 p2 p3 p4 p5 q1 q2 q3 q4) (ksEnv qual iS s.heap.objs.size fI (.ref cda) cc)) _ _ _
  refine ks_wpAt_execs_cons (ks_wpAt_Expr_any (ks_wpAt_MethodCall ?_ (eval_meth hline)))
  refine ks_wpAt_super_base (env := ksEnv qual iS s.heap.objs.size fI (.ref cda) cc) rfl rfl rfl rfl (X₁ _ _ ho) rfl rfl rfl (X₁ _ _ hcode) rfl hvs hfile T.top ?_
  refine ks_loadName_global rfl rfl (loadGlobal_builtin (env := ksEnv qual iS s.heap.objs.size fI (.ref cda) cc) (hG.keeps k) T.noS (hB.keeps k) ((hb _ (by decide)).trans (show bootBuiltins "super" = some (.type "super") by first | boot_by_name | rfl | kernel_rfl)) ⟨rfl, ?_⟩)
  refine wpAny_loadName_free rfl rfl rfl ⟨_, X₁ _ _ hcell, rfl⟩ ?_
  refine wpAny_loadName_local rfl rfl hns (v := .ref x) (by first | rfl | with_unfolding_all rfl | kernel_rfl) ?_
  refine ks_wpAny_isType_cls (X₁ _ _ hC) rfl ⟨rfl, ?_⟩
  refine ks_wpAny_call_super (X₁ _ _ hC) rfl I₁.at_ I₁.cls (fun c e => by cases e) (looks_mroIn X₁ T.mro) (fun h₂ hso k₂ => ?_)
  have X₂ : K.In h₂ := X₁.keeps k₂
  have I₂ : InstAt h₂ x (excO C t0) C none := ⟨k₂ _ _ hx₁, rfl, rfl, trivial⟩
  have hsup := T.sup
  unfold ks_superIn at hsup
  rw [hcl] at hsup
  refine kxs_getMethod kxs_ValueError hso (looks_opaque X₂ T.op) (l₀ := .ref C :: bm) (fun A Q E s k q => wpAny_bind ((looks_clsIn X₂ hcl) A _ E s k (wpAny_pure q))) rfl X₂ hsup (I₂.type.andThen (looks_subIn X₂ T.veC)) (ks_ne X₂ I₂ hcl) rfl ?_
  have k₃ : ∀ b o, h₂.get? b = some o → (h₂.push (kxs_mw "ValueError.__init__" x)).get? b = some o := fun b o e => Heap.get?_push_of_some _ e
  have hu : (h₂.push (kxs_mw "ValueError.__init__" x)).get? h₂.objs.size = some (kxs_mw "ValueError.__init__" x) := Heap.get?_push_size _ rfl
  have hns₃ : Heap.Ns (h₂.push (kxs_mw "ValueError.__init__" x)) s.heap.objs.size _ := (hns.keeps k₂).keeps k₃
  generalize hgen : h₂.push (kxs_mw "ValueError.__init__" x) = h₃ at k₃ hu hns₃ ⊢
  have X₃ : K.In h₃ := X₂.keeps k₃
  refine callWith1 (i := "ValueError.__init__") (x := x) (args_cons ?_ rfl)
  refine ldC (v := v) hns₃ (by first | rfl | with_unfolding_all rfl | kernel_rfl) (args_nil ?_)
  refine ⟨hu, call_mw (X₃ _ _ hC) (k₃ _ _ (k₂ _ _ hx₁)) hu (one_size v) fun h₄ t1 k₄ hx₄ hz₄ => ?_⟩
  have hxL : s.heap.objs.size ≠ x := Nat.ne_of_gt (Heap.lt_size hx)
  have X₄ : K.In h₄ := fun a o e => k₄ a o (fun z => by rw [z, hnx] at e; cases e) (X₃ a o e)
  have hns₄ : h₄.Ns s.heap.objs.size (fun y => ([("self", Value.ref x), ("at", v)] : List (Str × Value)).reverse.lookup y) := hns₃.at fun o e => k₄ _ o hxL e
  -- self.at = at
  show wpAt _ _ _ (execs _ _) _ _ _
  refine wpAt_of_wpAny ?_
  refine wpAny_execs_cons (plainObj_wpAny_Assign_Attribute ?_)
  refine ldC (v := v) hns₄ (by first | rfl | with_unfolding_all rfl | kernel_rfl) (ldC (v := .ref x) hns₄ (by first | rfl | with_unfolding_all rfl | kernel_rfl) ?_)
  refine set_plain X₄ (ox := excO C t1) (od := none) ⟨hx₄, rfl, rfl, trivial⟩ T.sa ?_
  refine exc_osa X₄ hx₄ hcl (show refsVE (.ref C :: bm) = true from hbm) rfl T.noN (fun h₅ tk₅ dx k₅ dn dne hx₅ hn₅ => ?_)
  show wpAny _ _ (execs _ _) _ _ _
  have z : s.heap.objs.size < h₄.objs.size := hns₄.lt
  exact wpAny_execs_nil (hq h₅ tk₅ dx t1 ⟨fun b o hb e => k₅ b o hb (k₄ b o hb (k₃ _ _ (k₂ _ _ (k b o e)))), hx₅, Nat.le_of_lt (Nat.lt_of_lt_of_le z dn), dne, hn₅⟩)
theorem err_made (T : ErrTxt prog K mg nm C fI) {v : Value} (X : K.In s.heap) (hG : s.heap.Ns mainGlobals mg) (hB : s.heap.Ns builtinsNs mb) (hb : ∀ y : Str, y ≠ "__name__" → mb y = bootBuiltins y) (hlim : s.heap.NoLimit) (hroom : A.depth + 1 < recursionLimit)
    (hq : ∀ h' tk e d, OwnMade s.heap h' e C d v → R (.ok (.ret (.ref e))) { s with heap := h', toks := tk }) :
    codeAny (model prog w) A (.call (.ref C) ⟨[v], []⟩) R s := by
  obtain ⟨nm', q, N, bs, bm, sn, sub, ab, col, dd, k0, k1, k2, k3, k5, hC, hbm⟩ := T.cls
  obtain ⟨hp, g, dr, tk, os⟩ := s
  have k : ∀ b o, hp.get? b = some o → ((hp.push (kdv_tup [v])).push (excO C hp.objs.size)).get? b = some o := fun b o e => Heap.get?_push_of_some _ (Heap.get?_push_of_some _ e)
  have hget : ((hp.push (kdv_tup [v])).push (excO C hp.objs.size)).get? (hp.objs.size + 1) = some (excO C hp.objs.size) := by heap_get
  have hnx : K.lookup (hp.objs.size + 1) = none := by
    cases e : K.lookup (hp.objs.size + 1) with
    | none => rfl
    | some o =>
      have z : hp.get? (hp.objs.size + 1) = some o := X _ _ e
      exact absurd (Nat.lt_of_succ_lt (Heap.lt_size z)) (Nat.lt_irrefl _)
  refine call_own F.excBase_ValueError (fun X => refsVE_contains X bm hbm) (X _ _ hC) (looks_findIn X T.iC) (fun self => bind_fn X self T.tC) (one_size v) ?_
  refine err_init (s := ⟨(hp.push (kdv_tup [v])).push (excO C hp.objs.size), g, dr, tk, os⟩) T (X.keeps k) (hG.keeps k) (hB.keeps k) hb (hlim.keeps k) hget hnx ?_ fun h' tk' dx t1 ⟨k', hx, dn, dne, hns⟩ => ?_
  · show A.depth + 1 < recursionLimit
    exact hroom
  · have old : ∀ b o, hp.get? b = some o → h'.get? b = some o := fun b o e => k' b o (Nat.ne_of_lt (Nat.lt_succ_of_lt (Heap.lt_size e))) (k b o e)
    have z : hp.objs.size + 1 + 1 ≤ dx := by
      first
        | (simpa only [Heap.size_push] using dn)
        | exact dn
        | (have q := dn; rw [Heap.size_push, Heap.size_push] at q; exact q)
    exact ⟨rfl, hq h' tk' (hp.objs.size + 1) dx ⟨old, Nat.le_succ _, ⟨_, _, hx, rfl, rfl, rfl, rfl⟩, Nat.le_trans (Nat.le_trans (Nat.le_succ _) (Nat.le_succ _)) z, dne, hns⟩⟩
end
end BkErr
end PySem
namespace BkG
open PySem PySem.Spec PyProof.Rows L2
theorem relO_at {v : V} {v' : Value} (r : RelV v v') (f : Str) : RelO (List.lookup f [(("at" : Str), v)]) (if f = "at" then some v' else none) := by
  by_cases hw : f = "at"
  · subst hw
    rw [if_pos rfl]
    have q : List.lookup ("at" : Str) [(("at" : Str), v)] = some v := by simp [List.lookup]
    rw [q]
    exact r
  · rw [if_neg hw]
    have qw : (f == ("at" : Str)) = false := by simpa using hw
    have q2 : List.lookup f [(("at" : Str), v)] = none := by simp [List.lookup, qw]
    rw [q2]
    trivial
section
variable {X : Cx} {nm : Str} {C fI : Addr}
/-- nm(e) -/
def tMkErr (C : Addr) (ta : TA) : L2.St → Hp → XK → Prop := fun σ H Q => ta σ H fun vs H1 => ∃ v, vs = [v] ∧ ∀ d, H1 d = none → Q (.ref C) (some d) (upd H1 d (.xd [(("at" : Str), v)]))
theorem pmk_err {a : Expr} {ta : TA} {p pos : Pos} {k : Nat} (T : PySem.BkErr.ErrTxt X.prog X.K X.mg nm C fI) (hr : Room k X.A) (ha : PA X [a] ta) (hg : Gl X nm := by rfl) (hnd : (nm == ("__debug__" : Str)) = false := by decide)
    (he : starEach (a :: []) X.env = (false, eval a X.env) :: starEach [] X.env := by rfl) (hpl : (backTo pos (starEach [] X.env)).any (·.1) = false := by rfl) :
    PMk X (.Call (.Name nm p) [a] [] pos) (tMkErr C ta) := by
  intro pins s σ H Q I h
  refine wpAny_Call_Name_kw (ld_glob I hg T.gC ?_ hnd)
  refine PySem.W.callWith_K (h₀ := X.base) I.ok.mod.kin T.kC (thn (ha.run pos pins s σ H _ I h) fun us s1 hh => ?_) he hpl
  obtain ⟨vs, H1, I1, r1, v, ev, q1⟩ := hh
  subst ev
  refine ⟨I1.kIn, ?_⟩
  cases r1 with
  | cons rv rn =>
    rename_i v' us'
    cases rn
    show wpAny _ _ (call (.ref C) [v']) _ _ _
    have hlim := I1.nolimit
    obtain ⟨mb, hb1, hb2⟩ := I1.mod.blt
    have hG := I1.mod.glob.keeps I1.bk
    have hB := hb1.keeps I1.bk
    have hK := I1.kIn
    obtain ⟨hp, g, dr, tk, os⟩ := s1
    refine wpAny_call (PySem.BkErr.err_made T hK hG hB hb2 hlim (by have := hr.dp; omega) fun h' tk' e d M => ?_)
    show MkP X pins σ Q (.ref e) ⟨h', g, dr, tk', os⟩
    obtain ⟨oe, fv, hoe, hc, hd, hdat, h1⟩ := M.obj
    have hns := M.ns
    obtain ⟨G', g1, g2⟩ := restrict h' fun b => decide (b ≠ e)
    have gk : ∀ b, b ≠ e → G'.get? b = h'.get? b := fun b hb => g1 b (decide_eq_true hb)
    have ge : G'.get? e = none := g2 e (by simp)
    have old : ∀ b o, hp.get? b = some o → G'.get? b = some o := fun b o q => (gk b (Nat.ne_of_lt (Nat.lt_of_lt_of_le (Heap.lt_size q) M.new))).trans (M.keep b o q)
    have ob : ObjOk X.prog X.w (upd H1 d (.xd [(("at" : Str), v)])) G' d (.xd [(("at" : Str), v)]) :=
      ⟨_, hns.at (fun o q => (gk d M.dne).trans q), fun f => relO_at rv f⟩
    have J : Inv X pins σ (upd H1 d (.xd [(("at" : Str), v)])) ⟨G', g, dr, tk', os⟩ := I1.laid (t' := tk') old M.dbig ob
    refine ⟨e, oe, fv, ⟨G', g, dr, tk', os⟩, _, .ref C, some d, rfl, J, fun b o q => ?_, ge, hoe, ⟨hc, hd⟩, hdat, h1, ?_, rfl, I1.bare, raises_own T.exC T.tyC, q1 d (I1.hok.fresh M.dbig)⟩
    · by_cases hb : b = e
      · have q' : G'.get? b = some o := q
        rw [hb, ge] at q'; cases q'
      · exact (gk b hb).symm.trans q
    · rw [upd_ne (Ne.symm M.dne)]
      exact I1.hok.fresh M.new
/-- raise nm(e) -/
def tRaiseErr (C : Addr) (W : WX) (ta : TA) : TS := fun _ σ H => tMkErr C ta σ H fun cls d H' => W cls d σ H'
theorem ps_raiseErr {a : Expr} {ta : TA} {W : WX} {p pos pos2 : Pos} {k : Nat} (hc : X.calm = true) (T : PySem.BkErr.ErrTxt X.prog X.K X.mg nm C fI) (hr : Room k X.A) (tk : Takes X W) (ha : PA X [a] ta) (hg : Gl X nm := by rfl) (hnd : (nm == ("__debug__" : Str)) = false := by decide)
    (he : starEach (a :: []) X.env = (false, eval a X.env) :: starEach [] X.env := by rfl) (hpl : (backTo pos (starEach [] X.env)).any (·.1) = false := by rfl) :
    PS X (.Raise (some (.Call (.Name nm p) [a] [] pos)) none pos2) (tRaiseErr C W ta) := ps_raise hc tk (pmk_err T hr ha hg hnd he hpl)
/-- wrong.at, wrong the exception that the suite holds (at a; its class cls, its dict d) -/
def tAtErr (C : Addr) (a : Addr) (cls : Value) (d : Option Addr) (te : TE) : TE := fun σ H Q => te σ H fun x H1 => x = .ref a ∧ cls = .ref C ∧ ∃ (dd : Addr) (v : V), d = some dd ∧ H1 dd = some (.xd [(("at" : Str), v)]) ∧ Q v H1
end
end BkG
namespace BkG
open PySem PySem.Spec PyProof.Rows L2
/-! ### several clauses, each with a name: except X as n -/
def dAs (i : Nat) (D : Ends) : Ends := { nx := fun σ' H' => D.nx (σ'.set i none) H', rt := D.rt, bk := fun σ' H' => D.bk (σ'.set i none) H', ct := fun σ' H' => D.ct (σ'.set i none) H' }
def wManyA (K : PySem.W.Frag) (n : Nat) (Wout : WX) (D : Ends) : List (Value × Nat × (Addr → Value → Option Addr → TS)) → WX
  | [] => Wout
  | (c, i, ts) :: r => fun cls d σ H => ∃ b, PySem.W.exmOne K cls c = some b ∧ (b = true → ∀ a, H a = none → σ.length = n → ts a cls d (dAs i D) (σ.set i (some (.ref a))) H) ∧ (b = false → wManyA K n Wout D r cls d σ H)
inductive HdsA (X : Cx) : List ExceptHandler → List (Value × Nat × (Addr → Value → Option Addr → TS)) → Prop
  | nil : HdsA X [] []
  | cons {x n : Str} {i : Nat} {c : Value} {ts : Addr → Value → Option Addr → TS} {b₀ : Stmt} {suite : List Stmt} {np pos' : Pos} {hds : List ExceptHandler} {l : List (Value × Nat × (Addr → Value → Option Addr → TS))} (hi : X.N[i]? = some n) (hln : X.env.kindOf n = some .local) (hc : Names X x c)
      (hsu : ∀ (a : Addr) (oe : Obj) (cls : Value) (d : Option Addr) (pn : List (Addr × Obj)), Zc cls d oe → (∃ vs, oe.data = .fields vs) → PSs (X.suite a ((a, oe) :: pn)) (b₀ :: suite) (ts a cls d)) (r : HdsA X hds l) :
      HdsA X (.ExceptHandler (some (.Name x np)) (some n) (b₀ :: suite) pos' :: hds) ((c, i, ts) :: l)
section
variable {X : Cx} {body : List Stmt} {h₀ : ExceptHandler} {hds : List ExceptHandler} {l : List (Value × Nat × (Addr → Value → Option Addr → TS))} {pos : Pos} {tb : WX → TS} {Wout : WX}
theorem ps_try_manyA (hs : X.stack = X.env :: X.outer) (hf : X.env.frame = some X.env.locals) (hN : X.N.Nodup) (tk : Takes X Wout)
    (hb : ∀ (W : WX) (pn : List (Addr × Obj)) (xe : Value → Shared → Prop), Takes (X.tr pn xe) W → PassesOwn (model X.prog X.w) X.A X.env xe → PSs (X.tr pn xe) body (tb W))
    (hh : HdsA X (h₀ :: hds) l) : PS X (.Try body (h₀ :: hds) [] [] pos) (fun D σ H => tb (wManyA X.K X.N.length Wout D l) D σ H) := by
  refine ⟨fun pins s σ H D I h => ?_⟩
  have ok := I.ok
  have hfr : X.A.frames = some (X.env :: X.outer) := by rw [ok.frames, hs]
  refine wpAny_Try_except ?_
  refine wpAny_mono ((hb (wManyA X.K X.N.length Wout D l) (X.pn ++ pins) (fun e s₁ => wpAny (model X.prog X.w) X.A (noteFrame e X.env) (fun _ s₂ => wpAny (model X.prog X.w) X.A (setFlight e none) (fun _ s₃ =>
    wpAny (model X.prog X.w) X.A (handleBy e X.env (h₀ :: hds)) (SP X pins D) X.xe s₃) X.xe s₂) X.xe s₁) (fun u s' xx => ?_) PassesOwn.looking).run [] s σ H D (I.toTry _) h) (fun f s1 hsp => ?_) (fun e s1 he => he)
  · obtain ⟨a, B, sI, pins', σ', H', cls, d, rfl, J', nb, up, sky, na, os, ag, w⟩ := xx
    have J : Inv X pins σ' H' sI := J'.ofTry ok
    have sky' : Sky B (X.env :: X.outer) a (Zc cls d) X.env.locals s'.heap := by rw [← hs]; exact sky
    show wpAny (model X.prog X.w) X.A (noteFrame (.ref a) X.env) _ _ _
    refine Sky.land Zc.steady hfr hf sky' fun h3 fl3 up3 => ?_
    have J3 : Inv X pins σ' H' { s' with heap := h3 } := J.landed nb fl3.1 (up.trans up3) os ag
    obtain ⟨oe3, vs3, he3, hz3, hd3⟩ := fl3.there
    have notFr : ∀ {h : Heap} {o : Obj} {vs : Array Value}, h.FunFrames B (X.env :: X.outer) → h.get? a = some o → o.data = .fields vs → a ∉ frs (X.env :: X.outer) := fun {h o vs} ff e dd hm => by
      obtain ⟨_, o', e', hnf⟩ := ff.mem hm
      rw [e] at e'; cases e'
      exact hnf _ dd
    have nfr := notFr fl3.2.2.1 he3 hd3
    have nL : a ≠ X.env.locals := fun z => nfr (List.mem_filterMap.mpr ⟨X.env, List.mem_cons_self, by rw [hf, z]⟩)
    have nF : a ∉ X.fs := fun hm => by
      obtain ⟨e, he, q⟩ := List.mem_filterMap.mp hm
      exact nfr (List.mem_filterMap.mpr ⟨e, List.mem_cons_of_mem _ he, q⟩)
    have S3 := J3.suite he3 hd3 na nL nF
    have go : ∀ {hds' : List ExceptHandler} {l' : List (Value × Nat × (Addr → Value → Option Addr → TS))}, HdsA X hds' l' → wManyA X.K X.N.length Wout D l' cls d σ' H' →
        wpAny (model X.prog X.w) X.A (handleBy (.ref a) X.env hds') (SP X pins D) X.xe { s' with heap := h3 } := by
      intro hds' l' hk
      induction hk with
      | nil =>
        intro w
        refine wpAny_handleBy_nil ?_
        obtain ⟨k1, k2, k3, oe, vs, T, oT, ts', he, hz, hd, h1, hr⟩ := id fl3
        unfold PySem.passOn
        refine wpAny_bind (wpAny_field he hd h1 ?_)
        rw [if_neg (show ¬ ((Value.ref T == Value.none) = true) from by simp)]
        have fin : wpAny (model X.prog X.w) X.A (setFlight (.ref a) X.env.frame) (fun _ s4 => wpAny (model X.prog X.w) X.A (throw (.ref a) : Sem Flow) (SP X pins D) X.xe s4) X.xe { s' with heap := h3 } := by
          rw [hf]
          refine HandSPX.setFlight_upZ fl3 fun h4 hh4 up4 => wpAny_throw (tk _ _ ?_)
          exact ⟨a, B, sI, pins, σ', H', cls, d, rfl, J, nb, (up.trans up3).trans up4, .inr (.inr (by rw [hs]; exact hh4)), na, os, ag, w⟩
        first
          | exact wpAny_bind (wpAny_pure (wpAny_bind fin))
          | exact wpAny_bind fin
      | @cons x n i c ts b₀ suite np pos' hds2 l2 hi hln hc hsu r ih =>
        intro w
        obtain ⟨b, hb1, hyes, hno⟩ := w
        have hloc : Loc X.env.scope n := .inl hln
        refine wpAny_handleBy_cons (codeAny_handlers_test ?_) (by intro q; cases q)
        have LT : PySem.W.Looks (model X.prog X.w) h3 (typeOf (.ref a)) cls := fun A Q E s k q => wpAny_typeOf_ref (k _ _ he3) (by rw [hz3.1]; exact q)
        have LM := PySem.W.exm_one (M := model X.prog X.w) (J3.kIn) LT hb1
        have test : ∀ {Q : Value → Shared → Prop} {E : Value → Shared → Prop}, Q c { s' with heap := h3 } → wpAny (model X.prog X.w) (X.A.mark (some (.ref a))) (eval (.Name x np) X.env) Q E { s' with heap := h3 } := fun {Q E} q => by
          obtain ⟨hg, hdbg, hm | ⟨hm, hv, hnn⟩⟩ := hc
          · exact ld_glob (X := X.suite a ((a, oe3) :: (X.pn ++ pins))) S3 hg hm q hdbg
          · exact ld_blt (X := X.suite a ((a, oe3) :: (X.pn ++ pins))) S3 hg hm hv q hnn hdbg
        refine test (LM.here ?_)
        cases b with
        | true =>
          refine codeAny_handlers_suite_as ?_
          refine HandSPX.lands_againZ fl3 fun h4 fl4 up4 => ?_
          have J4 : Inv X pins σ' H' { s' with heap := h4 } := J.landed nb fl4.1 ((up.trans up3).trans up4) os ag
          obtain ⟨oe4, vs4, he4, hz4, hd4⟩ := fl4.there
          have S4 := J4.suite he4 hd4 na nL nF
          refine store_ok (X := X.suite a ((a, oe4) :: (X.pn ++ pins))) (v := .ref a) S4 hN hi hloc rfl (fun s5 S5 => ?_) (.inr hln)
          refine wpAny_mono ((hsu a oe4 cls d (X.pn ++ pins) hz4 ⟨_, hd4⟩).run [] s5 _ H' _ S5 (hyes rfl a na J.len)) (fun f s6 hsp => ?_) (fun _ _ z => False.elim z)
          have end_ : ∀ {σ6 : L2.St} {H6 : Hp} {Q : Shared → Prop}, Inv (X.suite a ((a, oe4) :: (X.pn ++ pins))) [] σ6 H6 s6 → (∀ s7, Inv X pins (σ6.set i none) H6 s7 → Q s7) →
              wpAny (model X.prog X.w) X.A (do bindName X.env n .none; unbindBehindTheSuite X.env n pos') (fun _ s7 => Q s7) X.xe s6 := fun {σ6 H6 Q} S6 hq => gone_ok (S6.unsuite ok) hN hi hln hq
          cases f with
          | next =>
            obtain ⟨σ6, H6, S6, q6⟩ := hsp
            exact end_ S6 fun s7 J7 => ⟨_, _, J7, q6⟩
          | brk =>
            obtain ⟨σ6, H6, S6, q6⟩ := hsp
            exact end_ S6 fun s7 J7 => ⟨_, _, J7, q6⟩
          | cont =>
            obtain ⟨σ6, H6, S6, q6⟩ := hsp
            exact end_ S6 fun s7 J7 => ⟨_, _, J7, q6⟩
          | ret u =>
            obtain ⟨v6, σ6, H6, S6, r6, q6⟩ := hsp
            exact end_ S6 fun s7 J7 => ⟨_, _, _, J7, r6, q6⟩
        | false =>
          show wpAny _ X.A (handleBy (.ref a) X.env hds2) _ _ _
          exact ih (hno rfl)
    exact go hh w
  · cases f with
    | next =>
      obtain ⟨σ', H', J', q⟩ := hsp
      exact wpAny_execs_nil ⟨σ', H', J'.ofTry ok, q⟩
    | brk =>
      obtain ⟨σ', H', J', q⟩ := hsp
      exact ⟨σ', H', J'.ofTry ok, q⟩
    | cont =>
      obtain ⟨σ', H', J', q⟩ := hsp
      exact ⟨σ', H', J'.ofTry ok, q⟩
    | ret u =>
      obtain ⟨v, σ', H', J', r, q⟩ := hsp
      exact ⟨v, σ', H', J'.ofTry ok, r, q⟩
end
/-- wrong.at, wrong the exception that the suite holds (at a; its class cls, its dict d), of a class with that field -/
def tAtA (P : Program) (K : PySem.W.Frag) (mg : Str → Option Value) (a : Addr) (cls : Value) (d : Option Addr) (te : TE) : TE := fun σ H Q => te σ H fun x H1 => x = .ref a ∧ ∃ (nm : Str) (C fI dd : Addr) (v : V), PySem.BkErr.ErrTxt P K mg nm C fI ∧ cls = .ref C ∧ d = some dd ∧ H1 dd = some (.xd [(("at" : Str), v)]) ∧ Q v H1
section
variable {X : Cx}
theorem pe_atErr {a : Addr} {oe : Obj} {cls : Value} {d : Option Addr} {pn : List (Addr × Obj)} {e : Expr} {te : TE} {pos : Pos} (hz : Zc cls d oe) (hf : ∃ vs, oe.data = .fields vs) (he : PE (X.suite a ((a, oe) :: pn)) e te)
    (hb : attributeBase e "at" X.env (eval e X.env) = eval e X.env := by rfl) :
    PE (X.suite a ((a, oe) :: pn)) (.Attribute e "at" pos) (tAtA X.prog X.K X.mg a cls d te) := by
  refine ⟨fun pins s σ H Q I h => ?_⟩
  refine attr_of hb (thn (he.run pins s σ H _ I h) fun u s1 hh => ?_)
  obtain ⟨x, H1, I1, rx, ex, nm, C, fI, dd, v, T, ec, ed, ea, q⟩ := hh
  subst ex
  obtain rfl : u = Value.ref a := rx
  subst ec
  subst ed
  obtain ⟨ha, _⟩ := I1.pin (a, oe) (List.mem_append_left _ List.mem_cons_self)
  obtain ⟨vs, hd⟩ := hf
  have hx : ObjOk X.prog X.w H1 s1.heap dd (.xd [(("at" : Str), v)]) := I1.hok dd _ ea
  obtain ⟨mA, hns, hr⟩ := hx
  obtain ⟨od, ho, hl⟩ := lookIn_ns hns
  have l : List.lookup ("at" : Str) [(("at" : Str), v)] = some v := by simp [List.lookup]
  obtain ⟨u, hu, ru⟩ := RelO.some_of (v := v) (o := mA "at") (by rw [← l]; exact hr "at")
  have J : PySem.W.InstAt s1.heap a oe C (some od) := ⟨ha, hz.1, by unfold PySem.W.notCls; rw [hd] <;> rfl, by rw [hz.2]; exact ho⟩
  exact HandSPX.exc_get I1.kIn J T.ga T.gg T.exC (PySem.W.findObj_own T.hdC T.noN rfl (by rw [hl, hu])) (handed_of ru) ⟨v, H1, I1.tok _, ru, q⟩
end
end BkG
namespace BkG
open PySem PySem.Spec PyProof.Rows L2
/-! ### defs called by keywords alone, defs that may raise -/
structure CalK (P : Program) (w : World) (K : PySem.W.Frag) (mg : Str → Option Value) (base : Heap) (k : Nat) (x : Str) (ps : List Str) (sp : Sp) : Prop where
  ex : ∃ f fd, FnOk P w K mg base CX0 k f fd ps sp ∧ mg x = some (.ref f) ∧ PySem.W.keepIn K (.ref f) = true ∧ Binds K fd ps [] ∧ KBn K fd ps 0 ps (fun _ ws => ws) (fun _ zs => zs)
structure CalR (P : Program) (w : World) (K : PySem.W.Frag) (mg : Str → Option Value) (base : Heap) (k : Nat) (x : Str) (ps : List Str) (sp : Sp) : Prop where
  ex : ∃ f fd, FnOk P w K mg base (L2.CX P w) k f fd ps sp ∧ mg x = some (.ref f) ∧ PySem.W.keepIn K (.ref f) = true ∧ Binds K fd ps [] ∧ KBn K fd ps 0 ps (fun _ ws => ws) (fun _ zs => zs)
section
variable {P : Program} {w : World} {K : PySem.W.Frag} {mg : Str → Option Value} {base : Heap}
theorem CalK.cal {k : Nat} {x : Str} {ps : List Str} {sp : Sp} (c : CalK P w K mg base k x ps sp) : Cal P w K mg base k x sp := let ⟨f, fd, F, hm, kp, b, _⟩ := c.ex; ⟨f, fd, ps, F, hm, kp, b⟩
theorem Fn.calK {x : Str} {st : Stmt} {N ps : List Str} {k : Nat} {sp : Sp} (F : Fn K mg x st ps) (S : FnScope N ps (defScope st)) (len : ∀ vs H Q E, sp vs H Q E → vs.length = ps.length)
    (hbody : ∀ (f : Addr) (cdv : Value) (A : Around) (outer : List Env) (s : Shared) (H : Hp) (vs : List V) (Q : VK) (E : XK), Room k (A.deeper (envOfC x (defScope st) s.heap.objs.size f cdv)) → sp vs H Q E →
      ∃ t, PSs (cxOf CX0 P w K mg base N x (defScope st) f cdv A outer s H E).nox (defBody st) t ∧ t { nx := fun _ H' => Q .non H', rt := Q } (start N vs) H) : CalK P w K mg base (k + 1) x ps sp := by
  obtain ⟨f, fd, F1, hm, hb, hk⟩ := F.ex
  exact ⟨f, fd, F1.ok S len (hbody f), hm, F1.kp, hb, hk⟩
theorem Fn.calR {x : Str} {st : Stmt} {N ps : List Str} {k : Nat} {sp : Sp} (F : Fn K mg x st ps) (S : FnScope N ps (defScope st)) (len : ∀ vs H Q E, sp vs H Q E → vs.length = ps.length)
    (hbody : ∀ (f : Addr) (cdv : Value) (A : Around) (outer : List Env) (s : Shared) (H : Hp) (vs : List V) (Q : VK) (E : XK), Room k (A.deeper (envOfC x (defScope st) s.heap.objs.size f cdv)) → sp vs H Q E →
      ∃ t, PSs (cxOf (L2.CX P w) P w K mg base N x (defScope st) f cdv A outer s H E) (defBody st) t ∧ t { nx := fun _ H' => Q .non H', rt := Q } (start N vs) H) : CalR P w K mg base (k + 1) x ps sp := by
  obtain ⟨f, fd, F1, hm, hb, hk⟩ := F.ex
  exact ⟨f, fd, F1.okX S len (hbody f), hm, F1.kp, hb, hk⟩
end
def tCallK (m : Nat) (sp : Sp) (E : XK) (tk : TA) : TE := fun σ H Q => tk σ H fun zs H2 => zs.length = m ∧ sp zs H2 Q E
section
variable {X : Cx} {CX : CXT} {k j : Nat} {f : Addr} {fd : FuncData} {ps : List Str} {sp : Sp} {E : XK} {W : WX} {x : Str} {p pos : Pos} {e : Expr} {es : List Expr} {kws : List Keyword} {t tk : TA}
/-- f(k = v, ..), all in the parameters' order -/
theorem pe_callK0 (F : FnOk X.prog X.w X.K X.mg X.base CX k f fd ps sp) (hr : Room k X.A) (hg : Gl X x) (hm : X.mg x = some (.ref f)) (hk : PySem.W.keepIn X.K (.ref f) = true) (hb : KBn X.K fd ps 0 ps (fun _ ws => ws) (fun _ zs => zs)) (hx : Passes CX X E)
    (hkw : PK X kws tk) (hall : (backToKw pos (keywordEach kws X.env)).all (·.1.isSome) = true := by rfl) (hks : (backToKw pos (keywordEach kws X.env)).filterMap (·.1) = ps := by rfl)
    (hdb : (x == ("__debug__" : Str)) = false := by decide)
    (hpl : ((backTo pos (starEach [] X.env)).any (·.1) || (backToKw pos (keywordEach kws X.env)).any (·.1.isNone)) = false := by rfl) :
    PE X (.Call (.Name x p) [] kws pos) (tCallK ps.length sp E tk) := by
  refine ⟨fun pins s σ H Q I h => ?_⟩
  refine wpAny_Call_Name_kw (ld_glob I hg hm ?_ hdb)
  refine PySem.W.callWith_KW0 (h₀ := X.base) I.ok.mod.kin hk hall ?_ hpl
  refine thn (hkw.run pos pins s σ H _ I h) fun ws s2 ⟨zs, H2, I2, rz, l2, q2⟩ => ⟨I2.kIn, ?_⟩
  rw [hks]
  exact run_fnN (us := []) (vs := []) F hr hb hx I2 .nil rz rfl l2 q2
theorem pe_ck {x : Str} (c : CalK X.prog X.w X.K X.mg X.base k x ps sp) (hr : Room j X.A) (hk : k ≤ j) (hg : Gl X x) (hkw : PK X kws tk)
    (hall : (backToKw pos (keywordEach kws X.env)).all (·.1.isSome) = true := by rfl) (hks : (backToKw pos (keywordEach kws X.env)).filterMap (·.1) = ps := by rfl) (hdb : (x == ("__debug__" : Str)) = false := by decide)
    (hpl : ((backTo pos (starEach [] X.env)).any (·.1) || (backToKw pos (keywordEach kws X.env)).any (·.1.isNone)) = false := by rfl) : PE X (.Call (.Name x p) [] kws pos) (tCallK ps.length sp E0 tk) := by
  obtain ⟨f, fd, F, hm, kp, _, b⟩ := c.ex
  exact pe_callK0 F (hr.mono hk) hg hm kp b pass0 hkw hall hks hdb hpl
/-- a def that may raise, called: what it lets out is taken -/
theorem pe_cr (c : CalR X.prog X.w X.K X.mg X.base k x ps sp) (hr : Room j X.A) (hk : k ≤ j) (hg : Gl X x) (tk : Takes X W) (hW : ∀ cls d σ H, E cls d H → W cls d σ H) (ha : PA X (e :: es) t)
    (hdb : (x == ("__debug__" : Str)) = false := by decide) (he : starEach (e :: es) X.env = (false, eval e X.env) :: starEach es X.env := by rfl) (hpl : (backTo pos (starEach es X.env)).any (·.1) = false := by rfl) :
    PE X (.Call (.Name x p) (e :: es) [] pos) (tCall sp [] E t) := by
  obtain ⟨f, fd, F, hm, kp, b, _⟩ := c.ex
  exact pe_call F (hr.mono hk) hg hm kp b .nil (passes_call tk hW) ha hdb he hpl
theorem pe_crk (c : CalR X.prog X.w X.K X.mg X.base k x ps sp) (hr : Room j X.A) (hk : k ≤ j) (hg : Gl X x) (tk' : Takes X W) (hW : ∀ cls d σ H, E cls d H → W cls d σ H) (hkw : PK X kws tk)
    (hall : (backToKw pos (keywordEach kws X.env)).all (·.1.isSome) = true := by rfl) (hks : (backToKw pos (keywordEach kws X.env)).filterMap (·.1) = ps := by rfl) (hdb : (x == ("__debug__" : Str)) = false := by decide)
    (hpl : ((backTo pos (starEach [] X.env)).any (·.1) || (backToKw pos (keywordEach kws X.env)).any (·.1.isNone)) = false := by rfl) : PE X (.Call (.Name x p) [] kws pos) (tCallK ps.length sp E tk) := by
  obtain ⟨f, fd, F, hm, kp, _, b⟩ := c.ex
  exact pe_callK0 F (hr.mono hk) hg hm kp b (passes_call tk' hW) hkw hall hks hdb hpl
end
/-- nothing is let out -/
theorem passN {X : Cx} : Passes (L2.CX X.prog X.w) X E0 := fun _ _ _ _ _ _ _ c => by
  obtain ⟨_, _, _, _, _, _, _, _, _, _, _, _, h⟩ := c
  exact h.elim
theorem pe_cn {X : Cx} {k j : Nat} {ps : List Str} {sp : Sp} {x : Str} {p pos : Pos} {e : Expr} {es : List Expr} {t : TA} (c : CalR X.prog X.w X.K X.mg X.base k x ps sp) (hr : Room j X.A) (hk : k ≤ j) (hg : Gl X x) (ha : PA X (e :: es) t)
    (hdb : (x == ("__debug__" : Str)) = false := by decide) (he : starEach (e :: es) X.env = (false, eval e X.env) :: starEach es X.env := by rfl) (hpl : (backTo pos (starEach es X.env)).any (·.1) = false := by rfl) :
    PE X (.Call (.Name x p) (e :: es) [] pos) (tCall sp [] E0 t) := by
  obtain ⟨f, fd, F, hm, kp, b, _⟩ := c.ex
  exact pe_call F (hr.mono hk) hg hm kp b .nil passN ha hdb he hpl
theorem pe_cnk {X : Cx} {k j : Nat} {ps : List Str} {sp : Sp} {x : Str} {p pos : Pos} {kws : List Keyword} {tk : TA} (c : CalR X.prog X.w X.K X.mg X.base k x ps sp) (hr : Room j X.A) (hk : k ≤ j) (hg : Gl X x) (hkw : PK X kws tk)
    (hall : (backToKw pos (keywordEach kws X.env)).all (·.1.isSome) = true := by rfl) (hks : (backToKw pos (keywordEach kws X.env)).filterMap (·.1) = ps := by rfl) (hdb : (x == ("__debug__" : Str)) = false := by decide)
    (hpl : ((backTo pos (starEach [] X.env)).any (·.1) || (backToKw pos (keywordEach kws X.env)).any (·.1.isNone)) = false := by rfl) : PE X (.Call (.Name x p) [] kws pos) (tCallK ps.length sp E0 tk) := by
  obtain ⟨f, fd, F, hm, kp, _, b⟩ := c.ex
  exact pe_callK0 F (hr.mono hk) hg hm kp b passN hkw hall hks hdb hpl
/-! ### what is promised of an error -/
def ErrTo (P : Program) (K : PySem.W.Frag) (mg : Str → Option Value) (E : XK) (nm : Str) (v : V) (H : Hp) : Prop :=
  ∀ (C fI d : Addr) (H' : Hp), PySem.BkErr.ErrTxt P K mg nm C fI → H d = none → Ex H H' → H' d = some (.xd [(("at" : Str), v)]) → E (.ref C) (some d) H'
theorem ErrTo.ex {P : Program} {K : PySem.W.Frag} {mg : Str → Option Value} {E : XK} {nm : Str} {v : V} {H H1 : Hp} (h : ErrTo P K mg E nm v H) (e : Ex H H1) : ErrTo P K mg E nm v H1 := fun C fI d H' T hd e' hx => h C fI d H' T (e.fresh hd) (e.trans e') hx
section
variable {X : Cx} {σ : L2.St} {H : Hp} {C : Addr} {W : WX} {ta : TA} {D : Ends}
def aErr (C : Addr) (W : WX) (σ : L2.St) : List V → Hp → Prop := fun vs H1 => ∃ v, vs = [v] ∧ ∀ d, H1 d = none → W (.ref C) (some d) σ (upd H1 d (.xd [(("at" : Str), v)]))
theorem w_raiseErr (h : ta σ H (aErr C W σ)) : tRaiseErr C W ta D σ H := h
theorem a_err {P : Program} {K : PySem.W.Frag} {mg : Str → Option Value} {E : XK} {nm : Str} {v : V} {fI : Addr} (T : PySem.BkErr.ErrTxt P K mg nm C fI) (h : ErrTo P K mg E nm v H) : aErr C (fun cls d _ H => E cls d H) σ [v] H := ⟨v, rfl, fun d hd => h C fI d _ T hd (Ex.new hd) upd_same⟩
def kCallK (m : Nat) (sp : Sp) (E : XK) (Q : VK) : List V → Hp → Prop := fun zs H2 => zs.length = m ∧ sp zs H2 Q E
theorem w_callK {m : Nat} {sp : Sp} {E : XK} {tk : TA} {Q : VK} (h : tk σ H (kCallK m sp E Q)) : tCallK m sp E tk σ H Q := h
theorem k_callK {m : Nat} {sp : Sp} {E : XK} {Q : VK} {zs : List V} (l : zs.length = m) (h : sp zs H Q E) : kCallK m sp E Q zs H := ⟨l, h⟩
end
end BkG
namespace BkG
open PySem PySem.Spec L2
/-! ### what is refused, in which order -/
def widOf : PyData → Nat
  | .int n => n.toNat
  | _ => 0
/-- none: nothing wrong; k: InvalidWord(k) -/
def chkWs (d : PyData) (ds : List PyData) : Option Nat := if isWid d = true then (ds.findIdx? fun e => !isWord (widOf d) e).map (· + 1) else some 0
theorem isWid_int {d : PyData} (h : isWid d = true) : ∃ w : Nat, d = .int w ∧ 1 ≤ w ∧ w ≤ 64 := by
  cases d with
  | int n =>
    simp only [isWid, decide_eq_true_eq] at h
    exact ⟨n.toNat, by rw [Int.toNat_of_nonneg (by omega)], by omega, by omega⟩
  | _ => simp [isWid] at h
theorem isWord_int {w : Nat} {d : PyData} (h : isWord w d = true) : ∃ a : Int, d = .int a ∧ Wd w a := by
  cases d with
  | int n =>
    simp only [isWord, decide_eq_true_eq] at h
    exact ⟨n, rfl, h⟩
  | _ => simp [isWord] at h
theorem isWord_of {w : Nat} {a : Int} (h : Wd w a) : isWord w (.int a) = true := by simp only [isWord]; exact decide_eq_true ⟨h.1, h.2⟩
theorem isWid_of {w : Nat} (h1 : 1 ≤ w) (h2 : w ≤ 64) : isWid (.int (w : Int)) = true := by simp only [isWid]; exact decide_eq_true ⟨by omega, by omega⟩
theorem chkWs_none {d : PyData} {ds : List PyData} (h : chkWs d ds = none) : isWid d = true ∧ ∀ e ∈ ds, isWord (widOf d) e = true := by
  unfold chkWs at h
  split at h
  · rename_i hw
    refine ⟨hw, fun e he => ?_⟩
    have h1 := List.findIdx?_eq_none_iff.mp (Option.map_eq_none_iff.mp h) e he
    simpa using h1
  · cases h
def spChkWX (P : Program) (K : PySem.W.Frag) (mg : Str → Option Value) : Sp := fun vs H Q E => ∃ (M : List Addr) (v x : V) (d : PyData), vs = [v, x] ∧ Dv M H v d ∧ (isWid d = true → Q .non H) ∧ (isWid d = false → ErrTo P K mg E "InvalidWord" x H)
def spChkWsX (P : Program) (K : PySem.W.Frag) (mg : Str → Option Value) : Sp := fun vs H Q E => ∃ (M : List Addr) (v : V) (t : Addr) (d : PyData) (xs : List V) (ds : List PyData), vs = [v, .ref t] ∧ Dv M H v d ∧ SqT K H t xs ∧ xs.length = ds.length ∧ (∀ (i : Nat) (x : V) (e : PyData), xs[i]? = some x → ds[i]? = some e → Dv M H x e) ∧
  (chkWs d ds = none → ∀ H', Ex H H' → Q .non H') ∧ (∀ k, chkWs d ds = some k → ErrTo P K mg E "InvalidWord" (.int (k : Int)) H)
def spBinX (P : Program) (K : PySem.W.Frag) (mg : Str → Option Value) (g : Nat → Int → Int → Int) : Sp := fun vs H Q E => ∃ (M : List Addr) (v x y : V) (d e f : PyData), vs = [v, x, y] ∧ Dv M H v d ∧ Dv M H x e ∧ Dv M H y f ∧
  (∀ (w : Nat) (a b : Int), d = .int (w : Int) → e = .int a → f = .int b → 1 ≤ w → w ≤ 64 → Wd w a → Wd w b → ∀ H', Ex H H' → Q (.int (g w a b)) H') ∧ (∀ k, chkWs d [e, f] = some k → ErrTo P K mg E "InvalidWord" (.int (k : Int)) H)
/-- an odd number -/
def isOddN : PyData → Bool
  | .int n => decide (n % 2 ≠ 0)
  | _ => false
def spTimesX (P : Program) (K : PySem.W.Frag) (mg : Str → Option Value) : Sp := fun vs H Q E => ∃ (M : List Addr) (v x y : V) (d e f : PyData), vs = [v, x, y] ∧ Dv M H v d ∧ Dv M H x e ∧ Dv M H y f ∧ (∀ n, f = .int n → n.natAbs < 2 ^ 4000) ∧
  (∀ (w : Nat) (a n : Int), d = .int (w : Int) → e = .int a → f = .int n → 1 ≤ w → w ≤ 64 → Wd w a → n % 2 ≠ 0 → ∀ H', Ex H H' → Q (.int (a * n % 2 ^ w)) H') ∧
  (∀ k, chkWs d [e] = some k → ErrTo P K mg E "InvalidWord" (.int (k : Int)) H) ∧ (chkWs d [e] = none → isOddN f = false → ErrTo P K mg E "InvalidQuestion" (.int 2) H)
/-! what two words tell, all ten -/
def opR (w : Nat) : Nat → Int → Int → Option Int
  | 7, a, b => some (if a < b then 1 else 0)
  | 8, a, b => if b = 0 then none else some (a / b)
  | 9, a, b => if b = 0 then none else some (a % b)
  | k, a, b => some (opF w k a b)
def valO : Option Int → V
  | none => .non
  | some z => .int z
def spResult10 : Sp := fun vs H Q _ => ∃ (w k : Nat) (a b : Int), vs = [.str (opV k), .int w, .int a, .int b] ∧ 1 ≤ w ∧ w ≤ 64 ∧ k < 10 ∧ Wd w a ∧ Wd w b ∧ ∀ H', Ex H H' → Q (valO (opR w k a b)) H'
def spTold10 : Sp := fun vs H Q _ => ∃ (w k : Nat) (a b : Int), vs = [.int w, .str (opV k), .int a, .int b] ∧ 1 ≤ w ∧ w ≤ 64 ∧ k < 10 ∧ Wd w a ∧ Wd w b ∧ ∀ H', Ex H H' → Q (valO (opR w k a b)) H'
inductive Out where
  | told (z : Int)
  | err (nm : Str) (at_ : Int)
/-- the number of a word of two -/
def isPairD : PyData → Option Nat
  | .str z => (List.range 10).find? fun k => decide (opV k = z)
  | _ => none
def reckOut (d p e f : PyData) : Out :=
  if isWid d = false then .err "InvalidWord" 0
  else match isPairD p with
  | none => .err "InvalidQuestion" 1
  | some k => if isWord (widOf d) e = false then .err "InvalidWord" 2 else if isWord (widOf d) f = false then .err "InvalidWord" 3 else
    match e, f with
    | .int a, .int b => match opR (widOf d) k a b with
      | none => .err "Refused" 0
      | some z => .told z
    | _, _ => .err "Refused" 0
def spReckX (P : Program) (K : PySem.W.Frag) (mg : Str → Option Value) : Sp := fun vs H Q E => ∃ (M : List Addr) (v p x y : V) (d c e f : PyData), vs = [v, p, x, y] ∧ Dv M H v d ∧ Dv M H p c ∧ Dv M H x e ∧ Dv M H y f ∧
  (∀ z, reckOut d c e f = .told z → ∀ H', Ex H H' → Q (.int z) H') ∧ (∀ nm k, reckOut d c e f = .err nm k → ErrTo P K mg E nm (.int k) H)
end BkG
namespace BkG
open PySem PySem.Spec PyProof.Rows L2 LamX
/-! ### what is told of a lambda that may be refused -/
def aTupV (Q : VK) (xs : List V) (H1 : Hp) : Prop := aTup Q xs H1
/-- which error is told by which word -/
def heardTags : List (Str × Str) := [("InvalidWord", "word"), ("InvalidQuestion", "question"), ("Refused", "refused")]
def EHeard (P : Program) (K : PySem.W.Frag) (mg : Str → Option Value) (L : List (Str × Str)) (Q : VK) : XK := fun cls d H' => ∃ (nm tag : Str) (C fI dd : Addr) (v : V), (nm, tag) ∈ L ∧ PySem.BkErr.ErrTxt P K mg nm C fI ∧ cls = .ref C ∧ d = some dd ∧ H' dd = some (.xd [(("at" : Str), v)]) ∧ aTup Q [.str tag, v] H'
def TTHeard (P : Program) (K : PySem.W.Frag) (mg : Str → Option Value) (L : List (Str × Str)) : (XK → Hp → VK → Prop) → Hp → VK → Prop := fun tl H Q => tl (EHeard P K mg L Q) H (fun v H2 => aTup Q [.str "told", v] H2)
theorem heard_err {P : Program} {K : PySem.W.Frag} {mg : Str → Option Value} {L : List (Str × Str)} {Q : VK} {nm tag : Str} {v : V} {H : Hp} (m : (nm, tag) ∈ L) (q : ∀ H', Ex H H' → aTup Q [.str tag, v] H') : ErrTo P K mg (EHeard P K mg L Q) nm v H :=
  fun C fI d H' T hd e hx => ⟨nm, tag, C, fI, d, v, m, T, rfl, rfl, hx, q H' e⟩
section
variable {σ : L2.St} {H : Hp} {Q : VK} {T : List (Addr × Str)} {TT : (XK → Hp → VK → Prop) → Hp → VK → Prop} {t : XK → TE}
theorem w_lam (hT : Tabs T H) (h : ∀ H1, ExtN H H1 → Tabs T H1 → TT (fun E H' Q' => t E σ H' Q') H1 Q) : tLam T TT t σ H Q := ⟨hT, h⟩
end
theorem ExtN.at {H H1 : Hp} {a : Addr} {o : HO} (e : ExtN H H1) (h : H a = some o) (n : ∀ ps, o ≠ .tbl ps) : H1 a = some o := e a o h n
theorem Deal.extN {H H' : Hp} {D L : Addr} (h : Deal H D L) (e : ExtN H H') : Deal H' D L := by
  obtain ⟨st, b, d⟩ := h
  exact ⟨st, b, e _ _ d.hD (fun _ h => by cases h), e _ _ d.hL (fun _ h => by cases h), d.len, d.all, d.b0, d.b1⟩
theorem Ex.extN {H H' : Hp} (e : Ex H H') : ExtN H H' := .of e
theorem tabs_kp {T : List (Addr × Str)} {H H' : Hp} {M : List Addr} (t : Tabs T H) (k : Kp M H H') (n : ∀ p ∈ T, p.1 ∉ M ∧ ∀ c q, H c = some (CodeO c q) → c ∉ M) : Tabs T H' := fun p hp => by
  obtain ⟨ps, h1, h2, h3⟩ := t p hp
  obtain ⟨n1, n2⟩ := n p hp
  refine ⟨ps, k _ _ h1 n1, h2, fun pos cv hc => ?_⟩
  obtain ⟨c, e1, e2⟩ := h3 pos cv hc
  exact ⟨c, e1, k _ _ e2 (n2 _ _ e2)⟩
theorem tabs_kpD {T : List (Addr × Str)} {H H' : Hp} {D L : Addr} (t : Tabs T H) (k : Kp [D, L] H H') (d : Deal H D L) : Tabs T H' := by
  obtain ⟨st, b, d⟩ := d
  refine tabs_kp t k fun p hp => ⟨?_, fun c q hc => ?_⟩
  · obtain ⟨ps, h1, _⟩ := t p hp
    have a1 : p.1 ≠ D := fun e => by rw [e, d.hD] at h1; cases h1
    have a2 : p.1 ≠ L := fun e => by rw [e, d.hL] at h1; cases h1
    simp [a1, a2]
  · have a1 : c ≠ D := fun e => by rw [e, d.hD] at hc; unfold CodeO at hc; cases hc
    have a2 : c ≠ L := fun e => by rw [e, d.hL] at hc; unfold CodeO at hc; cases hc
    simp [a1, a2]
theorem tabs_kp1 {T : List (Addr × Str)} {H H' : Hp} {S : Addr} {xs : List V} (t : Tabs T H) (k : Kp [S] H H') (hS : H S = some (.lst xs)) : Tabs T H' := by
  refine tabs_kp t k fun p hp => ⟨?_, fun c q hc => ?_⟩
  · obtain ⟨ps, h1, _⟩ := t p hp
    have a1 : p.1 ≠ S := fun e => by rw [e, hS] at h1; cases h1
    simp [a1]
  · have a1 : c ≠ S := fun e => by rw [e, hS] at hc; unfold CodeO at hc; cases hc
    simp [a1]
theorem tabs_mut {T : List (Addr × Str)} {H H' : Hp} {S : Addr} {xs : List V} (t : Tabs T H) (k : ∀ a o, a ≠ S → H a = some o → H' a = some o) (hS : H S = some (.lst xs)) : Tabs T H' :=
  tabs_kp1 t (S := S) (fun a o h n => k a o (by simpa using n) h) hS
theorem exm_b {K : PySem.W.Frag} {S C : Addr} {b : Bool} (h1 : PySem.W.subIn K (.ref S) (.type "BaseException") = some true) (h2 : PySem.W.isClsIn K S = true) (h3 : PySem.W.typeIn K (.ref S) = some (.type "type")) (h4 : PySem.W.subIn K (.ref C) (.ref S) = some b) : PySem.W.exmOne K (.ref C) (.ref S) = some b := by
  have e1 : (PySem.W.subIn K (.ref S) (.type "BaseException") == some true) = true := by rw [h1] <;> rfl
  have e2 : ((PySem.W.clsIn K S).isSome && PySem.W.typeIn K (.ref S) == some (.type "type")) = true := by
    have h2' : (PySem.W.clsIn K S).isSome = true := h2
    rw [h2', h3] <;> rfl
  show (if (PySem.W.subIn K (.ref S) (.type "BaseException") == some true) = true then (if ((PySem.W.clsIn K S).isSome && PySem.W.typeIn K (.ref S) == some (.type "type")) = true then PySem.W.subIn K (.ref C) (.ref S) else none) else none) = some b
  rw [if_pos e1, if_pos e2]
  exact h4
/-- the def's code object and its table -/
theorem tab_in {K : PySem.W.Frag} {x : Str} {f c P' : Addr} {oc kc : Value} {od kd : Option Addr} {osl ksl : Array (Option Value)} {fd : FuncData} {kvs : Array Value} (a : PySem.W.nsIn K mainGlobals x = some (some (.ref f))) (l : K.lookup f = some ⟨oc, od, .func fd, osl⟩) (hc : fd.code = .ref c)
    (lc : K.lookup c = some ⟨kc, kd, .fields kvs, ksl⟩) (pv : (kvs[11]? : Option Value) = some (.ref P')) : PySem.W.tabIn K x = some (c, P') := by
  unfold PySem.W.tabIn
  rw [a]
  simp only
  rw [l]
  simp only
  rw [hc]
  simp only
  rw [lc]
  simp only
  rw [pv]
/-! ### the end of the row: the top's facts are handed on -/
theorem walk_ofTs2 {l : PySem.W.OpenLaw} {n k : Nat} {q : Program} {loose : List Str} {XP : (Str → Option Value) → Heap → Prop} {YP : World → Heap → Prop} {d : DefRec} {K : Params → PySem.W.Frag} {CX : World → CXT} {x : Str}
    (hn : l.most = some n) (hn2 : n ≤ sizeLine) (hdf : d.params.defaults = []) (hr : Room k callerA) (hY : ∀ (w : World) (h : Heap), YP w h → (K w.params).In h)
    (F : ∀ (w : World) (mg : Str → Option Value) (fa : Addr) (h : Heap), YP w h → (K w.params).In h → h.Ns mainGlobals mg → (∀ {d' : DefRec} {x' : Str} {c P : Addr}, (recsOf q).find? (fun e => e.name == x') = some d' → PySem.W.tabIn (K w.params) x' = some (c, P) → PySem.W.CodeHd h c P ∧ h.get? P = some (PySem.W.tabObj #[])) → mg d.name = some (.ref fa) → LawAtS l w (K w.params) (CX w) k n x mg fa h)
    (hCX : ∀ (w : World) (H : Hp) (s : Shared) (e : Value) (s' : Shared), CX w [] H s (fun _ _ _ => False) e s' → False) :
    PySem.W.WalkO q loose XP YP l.row.toRowW d [] (fun f vs => PySem.call f vs) := by
  refine Att.attach_callB hn hdf fun w s₀ s₁ mg mb fa o pm cd doc a vs ns G Y ho hd hcd hmg hobj hints hlen hbits hg => ?_
  have KX := hY w _ Y
  obtain ⟨fd, cs, sp, hT, nT, C, hb, hsp, hF⟩ := F w mg fa _ Y KX G.T.g (fun hr ht => PySem.W.tab_of G.T KX hr ht) hmg
  exact law_callTs KX G.T.g G.T.b G.T.builtins G.T.nolimit hg hT nT C G.T.bmain hobj hints (Nat.le_trans hlen hn2) hr hF hb (fun H hH hS => hsp H a ns hlen hbits hH hS) fun H e s' => hCX w H s₁ e s'
end BkG
namespace BkG
open PySem PySem.Spec L2
/-! ### plain data compared -/
theorem depthAll_le {k : Nat} : ∀ {ds : List PyData}, (∀ d ∈ ds, d.depth ≤ k) → PyData.depthAll ds ≤ k
  | [], _ => Nat.zero_le _
  | d :: ds, h => Nat.max_le.mpr ⟨h d (by simp), depthAll_le fun e he => h e (by simp [he])⟩
theorem depth_okD : ∀ {n : Nat} {d : PyData}, okD n d = true → d.depth ≤ n
  | n, .none, _ => Nat.zero_le _
  | n, .bool _, _ => Nat.zero_le _
  | n, .int _, _ => Nat.zero_le _
  | n, .str _, _ => Nat.zero_le _
  | 0, .list _, h => by simp [okD] at h
  | 0, .tuple _, h => by simp [okD] at h
  | 0, .dict _, h => by simp [okD] at h
  | _ + 1, .dict _, h => by simp [okD] at h
  | n + 1, .list xs, h => by
    simp only [okD, Bool.and_eq_true, List.all_eq_true] at h
    exact Nat.succ_le_succ (depthAll_le fun d hd => depth_okD (h.2 d hd))
  | n + 1, .tuple xs, h => by
    simp only [okD, Bool.and_eq_true, List.all_eq_true] at h
    exact Nat.succ_le_succ (depthAll_le fun d hd => depth_okD (h.2 d hd))
theorem layAll_iff : ∀ {ds : List PyData}, PyData.canLayAll0 ds = true ↔ ∀ d ∈ ds, PyData.canLay0 d = true
  | [] => by simp [PyData.canLayAll0]
  | d :: ds => by
    rw [PyData.canLayAll0, Bool.and_eq_true, layAll_iff (ds := ds)]
    simp
/-- data that may be compared: at most n deep, its texts such as can be -/
def nice (n : Nat) (d : PyData) : Bool := okD n d && PyData.canLay0 d
theorem nice.ok {n : Nat} {d : PyData} (h : nice n d = true) : okD n d = true := by unfold nice at h; rw [Bool.and_eq_true] at h; exact h.1
theorem nice.lay {n : Nat} {d : PyData} (h : nice n d = true) : PyData.canLay0 d = true := by unfold nice at h; rw [Bool.and_eq_true] at h; exact h.2
theorem nice.mk {n : Nat} {d : PyData} (h1 : okD n d = true) (h2 : PyData.canLay0 d = true) : nice n d = true := by unfold nice; rw [h1, h2]; rfl
theorem nice.mono {n m : Nat} {d : PyData} (h : nice n d = true) (l : n ≤ m) : nice m d = true := nice.mk (okD.mono l (nice.ok h)) (nice.lay h)
theorem nice.shaped {n : Nat} {d : PyData} (h : nice n d = true) (hn : n ≤ 64) : SeqAt.shaped d = true := by
  unfold SeqAt.shaped
  rw [nice.lay h, decide_eq_true (Nat.le_trans (depth_okD (nice.ok h)) hn)]
  rfl
theorem nice.tup_in {n : Nat} {ds : List PyData} {d : PyData} (h : nice (n + 1) (.tuple ds) = true) (hd : d ∈ ds) : nice n d = true := by
  have h1 := nice.ok h
  have h2 := nice.lay h
  simp only [okD, Bool.and_eq_true, List.all_eq_true] at h1
  exact nice.mk (h1.2 d hd) (layAll_iff.mp h2 d hd)
theorem nice.tup_len {n : Nat} {ds : List PyData} (h : nice n (.tuple ds) = true) : ds.length ≤ 90000 := by
  have h1 := nice.ok h
  cases n with
  | zero => simp [okD] at h1
  | succ n => simp only [okD, Bool.and_eq_true, decide_eq_true_eq] at h1; exact h1.1
theorem nice.tup {n : Nat} {ds : List PyData} (l : ds.length ≤ 90000) (h : ∀ d ∈ ds, nice n d = true) : nice (n + 1) (.tuple ds) = true :=
  nice.mk (by simp only [okD, Bool.and_eq_true, decide_eq_true_eq, List.all_eq_true]; exact ⟨l, fun d hd => nice.ok (h d hd)⟩) (layAll_iff.mpr fun d hd => nice.lay (h d hd))
theorem nice.lst {n : Nat} {ds : List PyData} (l : ds.length ≤ 90000) (h : ∀ d ∈ ds, nice n d = true) : nice (n + 1) (.list ds) = true :=
  nice.mk (by simp only [okD, Bool.and_eq_true, decide_eq_true_eq, List.all_eq_true]; exact ⟨l, fun d hd => nice.ok (h d hd)⟩) (layAll_iff.mpr fun d hd => nice.lay (h d hd))
theorem nice.pos {n : Nat} {ds : List PyData} (h : nice n (.tuple ds) = true) : ∃ m, n = m + 1 := by
  have h1 := nice.ok h
  cases n with
  | zero => simp [okD] at h1
  | succ n => exact ⟨n, rfl⟩
def strIs (d : PyData) (t : Str) : Bool := match d with
  | .str s => s == t
  | _ => false
theorem eqv_str {d : PyData} {t : Str} : PyData.eqv d (.str t) = strIs d t := by cases d <;> simp [PyData.eqv, strIs]
theorem smD_str {d : PyData} {t : Str} : smD d (.str t) = strIs d t := by cases d <;> simp [smD, strIs]
theorem eqv_nilT {ds : List PyData} : PyData.eqv (.tuple ds) (.tuple []) = ds.isEmpty := by cases ds <;> simp [PyData.eqv, PyData.eqvAll]
theorem okD_str (t : Str) (n : Nat) : okD n (.str t) = true := by cases n <;> rfl
/-! ### kinds of values -/
def kindS : Nat → Str
  | 0 => "word" | 1 => "array" | 2 => "stack" | 3 => "in" | _ => "out"
def kindsV : List V := [.str "word", .str "array", .str "stack", .str "in", .str "out"]
def isKindD : PyData → Bool
  | .str s => inV (.str s) kindsV
  | _ => false
def areKindsD : PyData → Bool
  | .tuple ds => decide (ds.length ≤ 20) && ds.all isKindD
  | _ => false
def wordsD (w most : Nat) : PyData → Bool
  | .tuple ds => decide (ds.length ≤ most) && ds.all (isWord w)
  | _ => false
def tagK (k : Nat) : Str := if k = 2 then "stack" else "channel"
def isOfD (w : Nat) : Nat → PyData → Bool
  | 0, d => isWord w d
  | 1, .tuple ds => wordsD w 200 (.tuple ds) && !ds.isEmpty
  | k + 2, .tuple [h, t] => strIs h (tagK (k + 2)) && wordsD w 2000 t
  | _, _ => false
def kindsOfD (w : Nat) (d : PyData) : List Nat := (List.range 5).filter fun k => isOfD w k d
def nothingD : Nat → PyData
  | 0 => .int 0 | 1 => .tuple [.int 0] | 2 => .tuple [.str "stack", .tuple []] | _ => .tuple [.str "channel", .tuple []]
def kindsT (ks : List Nat) : List PyData := ks.map fun k => .str (kindS k)
def emptyD (ks : List Nat) : PyData := .tuple (ks.map nothingD)
def fitD (w : Nat) (ks : List Nat) : PyData → Bool
  | .tuple ds => decide (ds.length = ks.length) && (ds.zip ks).all fun p => isOfD w p.2 p.1
  | _ => false
theorem cases5 {k : Nat} (h : k < 5) : k = 0 ∨ k = 1 ∨ k = 2 ∨ k = 3 ∨ k = 4 := by omega
theorem kind_at {i : Nat} {x : V} (h : kindsV[i]? = some x) : i < 5 ∧ x = .str (kindS i) := by
  have hi : i < 5 := (List.getElem?_eq_some_iff.mp h).1
  refine ⟨hi, ?_⟩
  rcases cases5 hi with rfl | rfl | rfl | rfl | rfl <;> (cases h; rfl)
theorem isKindD_inv {d : PyData} (h : isKindD d = true) : ∃ k, k < 5 ∧ d = .str (kindS k) := by
  cases d with
  | str s =>
    have h1 : inV (.str s) kindsV = true := h
    unfold inV at h1
    rw [List.any_eq_true] at h1
    obtain ⟨y, hy, he⟩ := h1
    obtain ⟨i, hi⟩ := List.getElem?_of_mem hy
    obtain ⟨h5, rfl⟩ := kind_at hi
    have e : kindS i = s := by
      have h' : (kindS i == s) = true := he
      exact eq_of_beq h'
    exact ⟨i, h5, by rw [e]⟩
  | _ => cases h
theorem isKindD_of {k : Nat} (h : k < 5) : isKindD (.str (kindS k)) = true := by
  rcases cases5 h with rfl | rfl | rfl | rfl | rfl <;> decide +kernel
theorem areKindsD_inv {d : PyData} (h : areKindsD d = true) : ∃ ks, d = .tuple (kindsT ks) ∧ ks.length ≤ 20 ∧ ∀ k ∈ ks, k < 5 := by
  cases d with
  | tuple ds =>
    simp only [areKindsD, Bool.and_eq_true, decide_eq_true_eq, List.all_eq_true] at h
    have : ∀ ds : List PyData, (∀ d ∈ ds, isKindD d = true) → ∃ ks, ds = kindsT ks ∧ ∀ k ∈ ks, k < 5 := by
      intro ds
      induction ds with
      | nil => exact fun _ => ⟨[], rfl, by simp⟩
      | cons d ds ih =>
        intro h
        obtain ⟨ks, rfl, h5⟩ := ih fun e he => h e (by simp [he])
        obtain ⟨k, hk, rfl⟩ := isKindD_inv (h d (by simp))
        exact ⟨k :: ks, rfl, fun j hj => by
          rcases List.mem_cons.mp hj with rfl | hj
          · exact hk
          · exact h5 j hj⟩
    obtain ⟨ks, rfl, h5⟩ := this ds h.2
    exact ⟨ks, rfl, by simpa [kindsT] using h.1, h5⟩
  | _ => cases h
theorem areKindsD_of {ks : List Nat} (l : ks.length ≤ 20) (h : ∀ k ∈ ks, k < 5) : areKindsD (.tuple (kindsT ks)) = true := by
  simp only [areKindsD, Bool.and_eq_true, decide_eq_true_eq, List.all_eq_true]
  refine ⟨by simpa [kindsT] using l, fun d hd => ?_⟩
  obtain ⟨k, hk, rfl⟩ := List.mem_map.mp hd
  exact isKindD_of (h k hk)
theorem r_isiLT {K : PySem.W.Frag} {M : List Addr} {H : Hp} {Q : VK} {v : V} {d : PyData} {p : Addr} (hp : H p = some (.tup [.ty "list", .ty "tuple"])) (h : Dv M H v d) (q : Q (.bl (isTup d || isLst d)) H) : rIsiT K [v, .ref p] H Q := by
  have n := h.nodict
  have h1 : PySem.W.kitOne K (.type (tyN d)) (.type "list") = some (isLst d) := kit_ty (by cases d <;> first | exact absurd rfl (n _) | (simp only [tyN, isTup, isLst]; decide +kernel))
  have h2 : PySem.W.kitOne K (.type (tyN d)) (.type "tuple") = some (isTup d) := kit_ty (by cases d <;> first | exact absurd rfl (n _) | (simp only [tyN, isTup, isLst]; decide +kernel))
  rw [Bool.or_comm] at q
  refine ⟨v, p, _, _, [.type "list", .type "tuple"], _, rfl, hp, .cons (.ty _) (.cons (.ty _) .nil), h.ty, kitAny_cons (r := isLst d || isTup d) h1 (fun e => ?_) (fun e => by rw [e]; rfl), q⟩
  rw [e, Bool.false_or]
  exact kitAny_cons h2 (fun e => by rw [e]; exact kitAny_nil) fun e => e
theorem r_all {K : PySem.W.Frag} {H : Hp} {Q : VK} {a : Addr} {bs : List Bool} (h : H a = some (.lst (bs.map V.bl))) (q : Q (.bl (bs.all id)) H) : rAll K [.ref a] H Q := ⟨a, bs, rfl, .of h, q⟩
theorem r_any {K : PySem.W.Frag} {H : Hp} {Q : VK} {a : Addr} {bs : List Bool} (h : H a = some (.lst (bs.map V.bl))) (q : Q (.bl (bs.any id)) H) : rAny K [.ref a] H Q := ⟨a, bs, rfl, .of h, q⟩
theorem take_map_more {α β : Type} {f : α → β} {l : List α} {i : Nat} {x : α} (h : l[i]? = some x) : (l.take (i + 1)).map f = (l.take i).map f ++ [f x] := by
  rw [List.take_add_one, h]; simp
theorem r_neD2 {K : PySem.W.Frag} {M : List Addr} {H : Hp} {Q : VK} {x y : V} {d e : PyData} (h1 : Dv M H x d) (h2 : Dv M H y e) (s1 : nice 60 d = true) (s2 : nice 60 e = true) (q : Q (.bl (!PyData.eqv d e)) H) : rNeD K x y H Q := r_neD h1.dp h2.dp (nice.shaped s1 (by decide)) (nice.shaped s2 (by decide)) q
theorem r_eqD2 {K : PySem.W.Frag} {M : List Addr} {H : Hp} {Q : VK} {x y : V} {d e : PyData} (h1 : Dv M H x d) (h2 : Dv M H y e) (s1 : nice 60 d = true) (s2 : nice 60 e = true) (q : Q (.bl (PyData.eqv d e)) H) : rEqD K x y H Q := r_eqD h1.dp h2.dp (nice.shaped s1 (by decide)) (nice.shaped s2 (by decide)) q
theorem dv_nilT {M : List Addr} {H : Hp} {p : Addr} (h : H p = some (.tup [])) : Dv M H (.ref p) (.tuple []) := .tup h rfl fun i v d h1 => by cases h1
theorem dv_nilL {H : Hp} {p : Addr} (h : H p = some (.lst [])) : Dv [] H (.ref p) (.list []) := .lst h (by simp) rfl fun i v d h1 => by cases h1
theorem nice_word {w n : Nat} {d : PyData} (h : isWord w d = true) : nice n d = true := by
  obtain ⟨a, rfl, _⟩ := isWord_int h
  exact nice.mk (by cases n <;> rfl) rfl
theorem nice_words {w most n : Nat} {d : PyData} (h : wordsD w most d = true) (hm : most ≤ 2000) : nice (n + 1) d = true := by
  cases d with
  | tuple ds =>
    simp only [wordsD, Bool.and_eq_true, decide_eq_true_eq, List.all_eq_true] at h
    exact nice.tup (by omega) fun d hd => nice_word (h.2 d hd)
  | _ => cases h
def spKind : Sp := fun vs H Q _ => ∃ M v d, vs = [v] ∧ Dv M H v d ∧ Q (.bl (isKindD d)) H
def spSeqq : Sp := fun vs H Q _ => ∃ M v d, vs = [v] ∧ Dv M H v d ∧ ∀ H', Ex H H' → Q (.bl (isTup d || isLst d)) H'
def spKinds : Sp := fun vs H Q _ => ∃ M v d, vs = [v] ∧ Dv M H v d ∧ ∀ H', Ex H H' → Q (.bl (areKindsD d)) H'
def spWords : Sp := fun vs H Q _ => ∃ (M : List Addr) (v : V) (d : PyData) (w most : Nat), vs = [v, .int w, .int most] ∧ 1 ≤ w ∧ w ≤ 64 ∧ most ≤ 2000 ∧ Dv M H v d ∧ ∀ H', Ex H H' → Q (.bl (wordsD w most d)) H'
def spOfKind : Sp := fun vs H Q _ => ∃ (M : List Addr) (v : V) (d : PyData) (k w : Nat), vs = [v, .str (kindS k), .int w] ∧ k < 5 ∧ 1 ≤ w ∧ w ≤ 64 ∧ Dv M H v d ∧ nice 60 d = true ∧ ∀ H', Ex H H' → Q (.bl (isOfD w k d)) H'
def spIsValue (P : Program) (K : PySem.W.Frag) (mg : Str → Option Value) : Sp := fun vs H Q E => ∃ (M : List Addr) (v u : V) (d e : PyData), vs = [v, u] ∧ Dv M H v d ∧ nice 60 d = true ∧ Dv M H u e ∧
  (isWid e = true → ∀ H', Ex H H' → Q (.bl !(kindsOfD (widOf e) d).isEmpty) H') ∧ (isWid e = false → ErrTo P K mg E "InvalidWord" (.int 1) H)
def spKindsOf (P : Program) (K : PySem.W.Frag) (mg : Str → Option Value) : Sp := fun vs H Q E => ∃ (M : List Addr) (v u : V) (d e : PyData), vs = [v, u] ∧ Dv M H v d ∧ (isWid e = true → nice 60 d = true) ∧ Dv M H u e ∧
  (isWid e = true → kindsOfD (widOf e) d ≠ [] → ∀ p H', Ex H H' → H' p = some (.tup ((kindsOfD (widOf e) d).map fun k => V.str (kindS k))) → Q (.ref p) H') ∧ (isWid e = false → ErrTo P K mg E "InvalidWord" (.int 1) H) ∧ (isWid e = true → kindsOfD (widOf e) d = [] → ErrTo P K mg E "InvalidQuestion" (.int 0) H)
def spFitKinds : Sp := fun vs H Q _ => ∃ (M : List Addr) (v t : V) (d : PyData) (ks : List Nat) (w : Nat), vs = [v, t, .int w] ∧ 1 ≤ w ∧ w ≤ 64 ∧ Dv M H v d ∧ nice 60 d = true ∧ Dv M H t (.tuple (kindsT ks)) ∧ (∀ k ∈ ks, k < 5) ∧ ks.length ≤ 20 ∧ ∀ H', Ex H H' → Q (.bl (fitD w ks d)) H'
def spFit (P : Program) (K : PySem.W.Frag) (mg : Str → Option Value) : Sp := fun vs H Q E => ∃ (M : List Addr) (v t u : V) (d e f : PyData), vs = [v, t, u] ∧ Dv M H v d ∧ nice 60 d = true ∧ Dv M H t e ∧ Dv M H u f ∧
  (∀ ks, e = .tuple (kindsT ks) → (∀ k ∈ ks, k < 5) → ks.length ≤ 20 → isWid f = true → ∀ H', Ex H H' → Q (.bl (fitD (widOf f) ks d)) H') ∧
  (areKindsD e = false → ErrTo P K mg E "InvalidQuestion" (.int 1) H) ∧ (areKindsD e = true → isWid f = false → ErrTo P K mg E "InvalidWord" (.int 2) H)
def seqKinds : PyData → Bool
  | .tuple ds => areKindsD (.tuple ds)
  | .list ds => areKindsD (.tuple ds)
  | _ => false
def spEmpty (P : Program) (K : PySem.W.Frag) (mg : Str → Option Value) : Sp := fun vs H Q E => ∃ (M : List Addr) (v : V) (d : PyData), vs = [v] ∧ Dv M H v d ∧ (∀ ds, d = .list ds → ds.length ≤ 90000) ∧
  (∀ ks, (d = .tuple (kindsT ks) ∨ d = .list (kindsT ks)) → (∀ k ∈ ks, k < 5) → ks.length ≤ 20 → ∀ v' H', Ex H H' → (∀ M', Dv M' H' v' (emptyD ks)) → Q v' H') ∧ (seqKinds d = false → ErrTo P K mg E "InvalidQuestion" (.int 0) H)
def spIsOfK : Sp := fun vs H Q _ => ∃ (M : List Addr) (v : V) (d : PyData) (k w : Nat), vs = [v, .str (kindS k), .int w] ∧ k < 5 ∧ w ≤ 64 ∧ Dv M H v d ∧ nice 4 d = true ∧ ∀ H', Ex H H' → Q (.bl (isOfD w k d)) H'
def spValue : Sp := fun vs H Q _ => ∃ (D L : Addr) (k w : Nat), vs = [.ref D, .str (kindS k), .int w] ∧ k < 5 ∧ 1 ≤ w ∧ w ≤ 64 ∧ Deal H D L ∧ ∀ (v : V) (d : PyData) (H' : Hp), (∀ M, Dv M H' v d) → isOfD w k d = true → nice 3 d = true → Deal H' D L → Kp [D, L] H H' → Q v H'
def spNear : Sp := fun vs H Q _ => ∃ (D L : Addr) (M : List Addr) (v : V) (d : PyData) (w : Nat), vs = [.ref D, v, .int w] ∧ w ≤ 64 ∧ (∀ a ∈ M, H a ≠ none) ∧ Dv (D :: L :: M) H v d ∧ nice 3 d = true ∧ Deal H D L ∧ ∀ (v : V) (d : PyData) (H' : Hp), Dv (D :: L :: M) H' v d → nice 4 d = true → Deal H' D L → Kp [D, L] H H' → Q v H'
theorem Dv.sub {M M' : List Addr} {H : Hp} {v : V} {d : PyData} (h : Dv M H v d) (s : ∀ a, a ∈ M' → a ∈ M) : Dv M' H v d := by
  induction h with
  | non => exact .non
  | bl b => exact .bl b
  | int i => exact .int i
  | str x => exact .str x
  | lst h n l t ih => exact .lst h (fun z => n (s _ z)) l ih
  | tup h l t ih => exact .tup h l ih
/-- without lists -/
theorem Dv.allKt {H H' : Hp} (k : Kt H H') : ∀ (d : PyData) (v : V), (∀ M, Dv M H v d) → ∀ M, Dv M H' v d
  | .none, v, h, M => by cases h []; exact .non
  | .bool b, v, h, M => by cases h []; exact .bl _
  | .int i, v, h, M => by cases h []; exact .int _
  | .str s, v, h, M => by cases h []; exact .str _
  | .dict kvs, v, h, M => by cases h []
  | .list ds, v, h, M => by
    obtain ⟨a, xs, rfl, _⟩ := (h []).lst_inv
    obtain ⟨b, ys, e, _, n, _⟩ := (h [a]).lst_inv
    cases e
    exact absurd (List.mem_singleton.mpr rfl) n
  | .tuple ds, v, h, M => by
    obtain ⟨a, xs, rfl, ha, hl, _⟩ := (h []).tup_inv
    refine .tup (k _ _ ha) hl fun i x d hx hd => ?_
    have hm := List.sizeOf_lt_of_mem (List.mem_of_getElem? hd)
    refine Dv.allKt k d x (fun M2 => ?_) M
    obtain ⟨b, ys, e, hb, _, ht⟩ := (h M2).tup_inv
    cases e
    rw [ha] at hb; cases hb
    exact ht i x d hx hd
  termination_by d => sizeOf d
  decreasing_by simp_wf; omega
end BkG
namespace BkG
open PySem PySem.Spec L2
/-! ### {k: v, ..}, d[k], tuple(..) -/
def kDisp (p : Addr) (Q : VK) : List (V × V) → Hp → Prop := fun ps H2 => H2 p = some (.dK []) ∧ ∃ kvs : List (Key × V), ps = kvs.map (fun kv => (kV kv.1, kv.2)) ∧ kvs.length ≤ 15 ∧ Q (.ref p) (upd H2 p (.dK (mergeK [] kvs)))
section
variable {σ : L2.St} {H : Hp} {Q : VK}
theorem w_disp {trs : List (TE × TE)} (h : ∀ p H1, H p = none → Ex H H1 → H1 p = some (.dK []) → tPairs trs σ H1 (kDisp p Q)) : tDisp trs σ H Q := fun p hp => h p _ hp (Ex.new hp) upd_same
theorem w_pair {tk tv : TE} {r : List (TE × TE)} {Q : List (V × V) → Hp → Prop} (h : tk σ H fun x H1 => tv σ H1 fun y H2 => tPairs r σ H2 fun ps H3 => Q ((x, y) :: ps) H3) : tPairs ((tk, tv) :: r) σ H Q := h
theorem w_pairN {Q : List (V × V) → Hp → Prop} (h : Q [] H) : tPairs [] σ H Q := h
theorem k_disp {p : Addr} {ps : List (V × V)} (kvs : List (Key × V)) (hp : H p = some (.dK [])) (e : ps = kvs.map (fun kv => (kV kv.1, kv.2))) (hl : kvs.length ≤ 15) (q : ∀ H2, (∀ a o, a ≠ p → H a = some o → H2 a = some o) → H2 p = some (.dK (mergeK [] kvs)) → Q (.ref p) H2) : kDisp p Q ps H :=
  ⟨hp, kvs, e, hl, q _ (fun a o n h => by rw [upd_ne n]; exact h) upd_same⟩
theorem mk_tup {ys : List V} (q : ∀ p H2, H p = none → Ex H H2 → H2 p = some (.tup ys) → Q (.ref p) H2) : ∀ l, H l = none → Q (.ref l) (upd H l (.tup ys)) := fun l hl => q l _ hl (Ex.new hl) upd_same
theorem mk_lst {ys : List V} (q : ∀ p H2, H p = none → Ex H H2 → H2 p = some (.lst ys) → Q (.ref p) H2) : ∀ l, H l = none → Q (.ref l) (upd H l (.lst ys)) := fun l hl => q l _ hl (Ex.new hl) upd_same
theorem w_dget {td ty : TE} (h : td σ H fun x H1 => ty σ H1 fun y H2 => ∃ a v, x = .ref a ∧ DGet H2 a y (some v) ∧ Q v H2) : tDGet td ty σ H Q := h
end
end BkG
namespace BkG
open PySem PySem.Spec PyProof.Rows L2
/-! ### (v,) * k, up to 5,000 -/
def rRepTW (K : PySem.W.Frag) : R2 := fun x y H Q => ∃ (a : Addr) (k : Int) (v : V), x = .ref a ∧ y = .int k ∧ SqT K H a [v] ∧ 2 ≤ k ∧ k ≤ 5000 ∧
  ∀ p, H p = none → Q (.ref p) (upd H p (.tup (List.replicate k.toNat [v]).flatten))
theorem op_repTW {X : Cx} : OpR X (binaryOp .Mult) (rRepTW X.K) := by
  intro ps s σ H x y ux uy Q J rx ry hh
  obtain ⟨a, k, v, rfl, rfl, hT, k1, k2, q⟩ := hh
  cases rx
  obtain ⟨tk, rfl⟩ := ry
  obtain ⟨us, r, ⟨⟨cls, dd, dat, sl⟩, ho, hc, n, hd⟩, hs⟩ := J.tuple hT
  simp only at hc hd
  subst hc hd
  obtain ⟨u, rfl⟩ : ∃ u, us = [u] := by
    have h1 : us.length = 1 := r.length.symm
    rcases us with _ | ⟨u, _ | ⟨_, _⟩⟩
    · cases h1
    · exact ⟨u, rfl⟩
    · simp at h1
  have fl : (List.replicate k.toNat [u]).flatten.length = k.toNat := by rw [PyProof.Rows.lm_len_rep_flat]; simp
  have fl2 : (List.replicate k.toNat [v]).flatten.length = k.toNat := by rw [PyProof.Rows.lm_len_rep_flat]; simp
  have b0 : (decide (k < -(2 ^ 63)) || decide (k ≥ 2 ^ 63)) = false := by
    rw [decide_eq_false (show ¬ k < -(2 ^ 63) by omega), decide_eq_false (show ¬ k ≥ 2 ^ 63 by omega)]; rfl
  have b1 : ([u].toArray.isEmpty || k == 1) = false := by
    have e : (k == 1) = false := by simpa using (show ¬ k = 1 by omega)
    rw [e]; rfl
  have b2 : (decide (k ≤ 0) || [u].toArray.isEmpty) = false := by
    rw [decide_eq_false (show ¬ k ≤ 0 by omega)]; rfl
  have sz1 : (([u].toArray.size : Nat) : Int) * k = k := by simp
  have b4 : Builtin.Tuple.tupleTooMany ((([u].toArray.size : Nat) : Int) * k) = false := by
    rw [sz1]
    unfold Builtin.Tuple.tupleTooMany
    rw [sizeLine_eq]
    exact decide_eq_false (by omega)
  have b3 : ¬ (([u].toArray.size : Nat) : Int) * k > (2 ^ 63 - 1) / 8 := by rw [sz1]; omega
  have bs : (List.foldl (fun x1 x2 => x1 ++ x2) #[] (List.replicate k.toNat [u].toArray)).size ≤ sizeLine := by
    rw [size_rep, List.size_toArray, fl, sizeLine_eq]; omega
  have m1 := int_rmul_tuple k tk a [u].toArray n dd sl
  have m2 := tuple_mulW a [u].toArray n dd sl k tk b0 b1 b2 b3 b4 bs
  refine wpAny_binaryOp_repeat_ref (T := "tuple") (U := "int") (by decide) ⟨_, ho, rfl⟩ (fun s' => typeIs_int s' k tk) noFill_tuple_mul F.fills_int_mul F.slot_int_rmul repeat_tuple F.slot_int_index.lookup ?_
  refine call_meets F.slot_int_rmul (typeIs_int s k tk) F.entry_int_rmul (F.args_int_rmul_2 _ _) m1 ⟨ho, rfl, ⟨_, ho, rfl⟩, ?_⟩
  refine call_meets F.slot_tuple_mul ⟨_, ho, rfl⟩ F.entry_tuple_mul (F.args_tuple_mul_2 _ _) m2 ⟨ho, ?_⟩
  rw [size_rep]
  refine ⟨.ref s.heap.objs.size, _, J.laid (t' := s.toks) (o := .tup (List.replicate k.toNat [v]).flatten) (fun b ob e => Heap.get?_push_of_some _ e) (Nat.le_refl _) ?_, rfl, q _ (J.hok.fresh (Nat.le_refl _))⟩
  exact ⟨by rw [fl2, sizeLine_eq]; omega, _, r.rep k.toNat, IsTup.new _ _⟩
theorem rep_one {α : Type} (v : α) : ∀ n : Nat, (List.replicate n [v]).flatten = List.replicate n v
  | 0 => rfl
  | n + 1 => by rw [List.replicate_succ, List.flatten_cons, rep_one v n]; rfl
theorem r_repTW {K : PySem.W.Frag} {H : Hp} {Q : VK} {a : Addr} {k : Int} {v : V} (h : H a = some (.tup [v])) (k1 : 2 ≤ k) (k2 : k ≤ 5000) (q : ∀ p H2, H p = none → Ex H H2 → H2 p = some (.tup (List.replicate k.toNat v)) → Q (.ref p) H2) : rRepTW K (.ref a) (.int k) H Q :=
  ⟨a, k, v, rfl, rfl, .of h, k1, k2, fun p hp => by
    rw [rep_one]
    exact q p _ hp (Ex.new hp) upd_same⟩
end BkG
namespace BkL
open PySem PySem.Spec L2 BkG
local macro_rules | `(tactic| walk_at "w1") => `(tactic| first
  | with_reducible refine w_seq ?_ | with_reducible refine w_set ?_ | with_reducible refine w_ret ?_ | with_reducible refine w_drop ?_ | with_reducible refine w_ifS ?_
  | with_reducible refine w_next ?_ | with_reducible refine w_c ?_ | ((with_reducible refine' w_var ?hv ?_); (case hv => rfl)) | with_reducible refine w_op ?_ | with_reducible refine w_cons ?_ | with_reducible refine w_nil ?_
  | with_reducible refine w_cb ?_ | with_reducible refine w_call ?_ | with_reducible refine w_tup ?_ | with_reducible refine w_lst ?_ | with_reducible refine w_bm ?_ | with_reducible refine w_bm0 ?_ | with_reducible refine w_un ?_
  | with_reducible refine w_test ?_ | with_reducible refine w_B ?_ | with_reducible refine k_B ?_ | with_reducible refine w_and ?_ | with_reducible refine w_or ?_ | with_reducible refine w_not ?_ | with_reducible refine w_if ?_
  | with_reducible refine w_andV ?_ | with_reducible refine w_orV ?_ | with_reducible refine w_notV ?_ | with_reducible refine k_andV ?_ | with_reducible refine k_orV ?_ | with_reducible refine k_notV ?_
  | with_reducible refine w_chain ?_ | with_reducible refine ex_bl ?_ | with_reducible refine w_isN ?_ | with_reducible refine w_notN ?_ | with_reducible refine w_yes ?_
  | with_reducible refine r_I0 ?_ | with_reducible refine r_U ?_ | with_reducible refine r_eqI ?_ | with_reducible refine r_neI ?_ | with_reducible refine r_eqS ?_ | with_reducible refine r_neS ?_ | with_reducible refine r_eqB ?_ | with_reducible refine r_neB ?_
  | with_reducible refine r_abs ?_ | with_reducible refine r_int ?_ | with_reducible refine r_intB ?_
  | with_reducible refine w_sl ?_ | with_reducible refine w_nop ?_ | with_reducible refine w_part ?_ | with_reducible refine k_part ?_ | with_reducible refine w_revL ?_
  | with_reducible refine w_asg ?_ | with_reducible refine w_gname ?_ | with_reducible refine w_gsub ?_ | with_reducible refine w_gnil ?_ | with_reducible refine w_gcons ?_ | with_reducible refine w_retN ?_ | with_reducible refine w_brk ?_ | with_reducible refine w_cont ?_
  | with_reducible refine w_par ?_ | with_reducible refine w_par3 ?_ | with_reducible refine par_ok ?_ | with_reducible refine par_ok3 ?_ | ((with_reducible refine' w_aug ?hv ?_); (case hv => rfl)) | with_reducible refine i_I ?_
  | with_reducible refine w_forL ?_ | with_reducible refine w_forT ?_ | with_reducible refine w_forR1 ?_ | with_reducible refine w_forE ?_ | with_reducible refine w_lcL ?_ | with_reducible refine w_lcT ?_ | with_reducible refine w_lcR ?_
  | ((with_reducible refine a_tup ?hz ?_); (case hz => exact Nat.le_of_ble_eq_true rfl); intro _ _ _ _ _) | ((with_reducible refine a_lst ?hz ?_); (case hz => exact Nat.le_of_ble_eq_true rfl); intro _ _ _ _ _)
  | ((with_reducible refine k_turn1 ?hw ?_); (case hw => rfl)) | ((with_reducible refine k_turn ?hw ?_); (case hw => rfl)) | with_reducible refine r_isV ?_ | with_reducible refine r_isNotV ?_ | with_reducible refine r_isN ?_ | with_reducible refine r_notN ?_ | with_reducible refine w_lcZ ?_
  | ((with_reducible refine r_I ?hc ?_); (case hc => first | decide | assumption))
  | with_reducible refine w_forET ?_
  | ((with_reducible refine w_dnewK ?_); intro _ _ _ _ _) | with_reducible refine w_dput ?_ | with_reducible refine w_lstRg ?_ | with_reducible refine w_lstZip ?_ | with_reducible refine w_callK ?_
  | (with_reducible refine if_pos' ?_) | (with_reducible refine if_neg' ?_))
local macro_rules | `(tactic| walk_at "w") => `(tactic| repeat (walk_at "w1"))

def topS (i : Nat) : Stmt := PySem.Challenge.pw_backagain_k03_whole_values_and_kinds.main.body.getD i (.Pass ⟨0, 0, 0, 0⟩)
abbrev s_any : Stmt := topS 29
theorem sc_any : FnScope ["deal", "bound", "rest"] ["deal", "bound"] (defScope s_any) := ⟨rfl, rfl, rfl, by decide +kernel, rfl, by decide +kernel, by decide +kernel⟩
theorem C_any {P : Program} {w : World} {K : PySem.W.Frag} {mg : Str → Option Value} {base : Heap} (F : Fn K mg "_law_any" s_any ["deal", "bound"]) (Z : Bz mg) : Cal P w K mg base 1 "_law_any" spAny := by
  have S := sc_any
  refine F.cal S (fun vs H Q E h => ?_) (fun f cdv A outer s H vs Q E hr h => ?_)
  · obtain ⟨D, L, n, rfl, _⟩ := h; rfl
  · obtain ⟨D, L, n, rfl, hd, hn, hb, q⟩ := h
    refine ⟨_, (pss_cons (ps_while PassesOwn.never (PW.pt (pw_and (pt_cmpR (op_neD hr.units) (pe_ix ix_list (pv 0) pe_int (fun _ _ => rfl)) (pe_lst pa_nil) (nomark _)) (pw_and1 (pt_cmpR op_eq (pe_ix ix_list (pe_ix ix_list (pv 0) pe_int (fun _ _ => rfl)) (pe_un un_neg pe_int) (fun _ _ => rfl)) pe_int (nomark _))))) (pss_one (ps_expr (pe_bm0 PySem.F.plainAttrs_list PySem.F.slot_list_pop PySem.F.type_list_pop mt_pop (pe_ix ix_list (pv 0) pe_int (fun _ _ => rfl))))))
      (pss_cons (ps_if (pt_cmpR (op_neD hr.units) (pe_ix ix_list (pv 0) pe_int (fun _ _ => rfl)) (pe_lst pa_nil) (nomark _)) (pss_cons (ps_set (i := 2) S.nd rfl (Or.inl rfl) (pe_callTy (cr_int) (by rfl) Z.int (by decide +kernel) (pa_cons (pe_bm0 PySem.F.plainAttrs_list PySem.F.slot_list_pop PySem.F.type_list_pop mt_pop (pe_ix ix_list (pv 0) pe_int (fun _ _ => rfl))) pa_nil)))
      (pss_cons (ps_expr (pe_bm PySem.F.plainAttrs_list PySem.F.slot_list_append PySem.F.type_list_append mt_append (pe_ix ix_list (pv 0) pe_int (fun _ _ => rfl)) (pa_cons (pe_op op_fdivW (pv 2) (pv 1)) pa_nil)))
      (pss_one (ps_ret (pe_op op_mod (pv 2) (pv 1)))))) pss_nil)
      (pss_cons (ps_asg (pe_op op_mod (pe_callTy (cr_int) (by rfl) Z.int (by decide +kernel) (pa_cons (pe_op op_add (pe_op op_mulW (pe_ix ix_list (pv 0) pe_int (fun _ _ => rfl)) pe_int) pe_int) pa_nil)) pe_int) (pg_sub (pv 0) pe_int set_list))
      (pss_one (ps_ret (pe_op op_mod (pe_callTy (cr_int) (by rfl) Z.int (by decide +kernel) (pa_cons (pe_op op_fdivW (pe_ix ix_list (pv 0) pe_int (fun _ _ => rfl)) pe_int) pa_nil)) (pv 1))))))), ?_⟩
    try dsimp only [cxOf, Cx.nox, Cx.wish]
    obtain ⟨st0, b0, d0⟩ := hd
    walk_at "w"
    refine w_cut (fun σ' H' => σ' = [some (.ref D), some (.int n), none] ∧ ∃ st b, DS H' D L st b ∧ Kp [D, L] H H') ?out (fun _ out => ?loop)
    case loop =>
      refine w_while (fun m σ' H' => σ' = [some (.ref D), some (.int n), none] ∧ ∃ st b, st.length = m ∧ DS H' D L st b ∧ Kp [D, L] H H') st0.length ⟨rfl, st0, b0, rfl, d0, Kp.refl _ _⟩ (fun m σ' H' hP => ?_)
      obtain ⟨rfl, st, b, rfl, d, k⟩ := hP
      walk_at "w"
      refine r_ixL (.of d.hD) (by rfl) ?_
      walk_at "w"
      rename_i p H2 hp e2 hp2
      refine r_neD (dp_ints (.of (e2 _ _ d.hL))) (.lst (.of hp2) .nil) (shaped_ints _) (by rfl) ?_
      rw [eqv_nil]
      have d2 := d.keep e2
      walk_at "w"
      by_cases hst : st = []
      · subst hst
        rw [show (!(List.map PyData.int []).isEmpty) = false from rfl]
        walk_at "w"
        exact k_wh (fun h => absurd h (by simp)) fun _ => out _ _ ⟨rfl, [], b, d2, k.ex e2⟩
      · have e0 : (!(List.map PyData.int st).isEmpty) = true := by cases st with
          | nil => exact absurd rfl hst
          | cons _ _ => rfl
        rw [e0]
        walk_at "w"
        refine r_ixL (.of d2.hD) (by rfl) ?_
        walk_at "w"
        refine r_ixL (.of d2.hL) (atI_last' hst) ?_
        walk_at "w"
        refine k_wh (fun h => ?_) fun _ => out _ _ ⟨rfl, st, b, d2, k.ex e2⟩
        walk_at "w"
        refine r_ixL (.of d2.hD) (by rfl) ?_
        refine ⟨ty_list d2.hL, r_pop d2.hL (last_int hst) fun H3 k3 h3 => ?_⟩
        rw [mapdrop] at h3
        have hlen : 0 < st.length := List.length_pos_iff.mpr hst
        refine ⟨st.dropLast.length, by rw [List.length_dropLast]; omega, rfl, st.dropLast, b, rfl, d2.setL k3 h3 (by rw [List.length_dropLast]; have := d2.len; omega) fun z hz => d2.all z (List.dropLast_subset _ hz), (k.ex e2).trans (k3.wider (by simp))⟩
    case out =>
      intro σ' H' hP
      obtain ⟨rfl, st, b, d, k⟩ := hP
      walk_at "w"
      refine r_ixL (.of d.hD) (by rfl) ?_
      walk_at "w"
      rename_i p H2 hp e2 hp2
      refine r_neD (dp_ints (.of (e2 _ _ d.hL))) (.lst (.of hp2) .nil) (shaped_ints _) (by rfl) ?_
      rw [eqv_nil]
      have d2 := d.keep e2
      have k2 := k.ex e2
      walk_at "w"
      by_cases hst : st = []
      · subst hst
        rw [show (!(List.map PyData.int []).isEmpty) = false from rfl]
        walk_at "w"
        refine r_ixL (.of d2.hD) (by rfl) ?_
        walk_at "w"
        have b0 := d2.b0
        have b1 := d2.b1
        refine r_I (wide_mul (a := 40) (b := 40) (by omega) (by decide) (by decide) (by decide) (by decide)) ?_
        walk_at "w"
        refine r_setL d2.hD (j := 1) (by rfl) fun H3 k3 h3 => ?_
        have d3 : DS H3 D L [] ((b * 40693 + 71) % 2147483647) := ⟨h3, k3 _ _ d2.hL (by simpa using d2.ne.symm), d2.len, d2.all, Int.emod_nonneg _ (by decide), Int.emod_lt_of_pos _ (by decide)⟩
        walk_at "w"
        refine r_ixL (.of d3.hD) (by rfl) ?_
        walk_at "w"
        refine r_I (wide_div (b := 8) (by decide) (by decide) (by decide) (by decide)) ?_
        walk_at "w"
        exact q _ _ (Int.emod_nonneg _ (by omega)) (Int.emod_lt_of_pos _ hn) ⟨_, _, d3⟩ (k2.trans (k3.wider (by simp)))
      · have e0 : (!(List.map PyData.int st).isEmpty) = true := by cases st with
          | nil => exact absurd rfl hst
          | cons _ _ => rfl
        rw [e0]
        walk_at "w"
        refine r_ixL (.of d2.hD) (by rfl) ?_
        refine ⟨ty_list d2.hL, r_pop d2.hL (last_int hst) fun H3 k3 h3 => ?_⟩
        rw [mapdrop] at h3
        have hlen : 0 < st.length := List.length_pos_iff.mpr hst
        have d3 : DS H3 D L st.dropLast b := d2.setL k3 h3 (by rw [List.length_dropLast]; have := d2.len; omega) fun z hz => d2.all z (List.dropLast_subset _ hz)
        have z0 := d2.all _ (List.getLast_mem hst)
        walk_at "w"
        refine r_ixL (.of d3.hD) (by rfl) ?_
        refine ⟨ty_list d3.hL, ?_⟩
        walk_at "w"
        refine r_I (wide_div (b := 4000) hn hb (by decide) (by decide)) ?_
        walk_at "w"
        refine r_append d3.hL (by rw [List.length_map, List.length_dropLast]; have := d2.len; omega) fun H4 k4 h4 => ?_
        have e4 : st.dropLast.map V.int ++ [V.int (st.getLast hst / n)] = (st.dropLast ++ [st.getLast hst / n]).map V.int := by simp
        rw [e4] at h4
        have d4 : DS H4 D L (st.dropLast ++ [st.getLast hst / n]) b := d3.setL k4 h4 (by rw [List.length_append, List.length_dropLast, List.length_singleton]; have := d2.len; omega) (fun z hz => by
          rcases List.mem_append.mp hz with h | h
          · exact d3.all z h
          · rw [List.mem_singleton.mp h]
            exact Int.ediv_nonneg z0 (by omega))
        walk_at "w"
        exact q _ _ (Int.emod_nonneg _ (by omega)) (Int.emod_lt_of_pos _ hn) ⟨_, _, d4⟩ ((k2.trans (k3.wider (by simp))).trans (k4.wider (by simp)))
end BkL
namespace BkL
open PySem PySem.Spec L2 BkG
local macro_rules | `(tactic| walk_at "w1") => `(tactic| first
  | with_reducible refine w_seq ?_ | with_reducible refine w_set ?_ | with_reducible refine w_ret ?_ | with_reducible refine w_drop ?_ | with_reducible refine w_ifS ?_
  | with_reducible refine w_next ?_ | with_reducible refine w_c ?_ | ((with_reducible refine' w_var ?hv ?_); (case hv => rfl)) | with_reducible refine w_op ?_ | with_reducible refine w_cons ?_ | with_reducible refine w_nil ?_
  | with_reducible refine w_cb ?_ | with_reducible refine w_call ?_ | with_reducible refine w_tup ?_ | with_reducible refine w_lst ?_ | with_reducible refine w_bm ?_ | with_reducible refine w_bm0 ?_ | with_reducible refine w_un ?_
  | with_reducible refine w_test ?_ | with_reducible refine w_B ?_ | with_reducible refine k_B ?_ | with_reducible refine w_and ?_ | with_reducible refine w_or ?_ | with_reducible refine w_not ?_ | with_reducible refine w_if ?_
  | with_reducible refine w_andV ?_ | with_reducible refine w_orV ?_ | with_reducible refine w_notV ?_ | with_reducible refine k_andV ?_ | with_reducible refine k_orV ?_ | with_reducible refine k_notV ?_
  | with_reducible refine w_chain ?_ | with_reducible refine ex_bl ?_ | with_reducible refine w_isN ?_ | with_reducible refine w_notN ?_ | with_reducible refine w_yes ?_
  | with_reducible refine r_I0 ?_ | with_reducible refine r_U ?_ | with_reducible refine r_eqI ?_ | with_reducible refine r_neI ?_ | with_reducible refine r_eqS ?_ | with_reducible refine r_neS ?_ | with_reducible refine r_eqB ?_ | with_reducible refine r_neB ?_
  | with_reducible refine r_abs ?_ | with_reducible refine r_int ?_ | with_reducible refine r_intB ?_
  | with_reducible refine w_sl ?_ | with_reducible refine w_nop ?_ | with_reducible refine w_part ?_ | with_reducible refine k_part ?_ | with_reducible refine w_revL ?_
  | with_reducible refine w_asg ?_ | with_reducible refine w_gname ?_ | with_reducible refine w_gsub ?_ | with_reducible refine w_gnil ?_ | with_reducible refine w_gcons ?_ | with_reducible refine w_retN ?_ | with_reducible refine w_brk ?_ | with_reducible refine w_cont ?_
  | with_reducible refine w_par ?_ | with_reducible refine w_par3 ?_ | with_reducible refine par_ok ?_ | with_reducible refine par_ok3 ?_ | ((with_reducible refine' w_aug ?hv ?_); (case hv => rfl)) | with_reducible refine i_I ?_
  | with_reducible refine w_forL ?_ | with_reducible refine w_forT ?_ | with_reducible refine w_forR1 ?_ | with_reducible refine w_forE ?_ | with_reducible refine w_lcL ?_ | with_reducible refine w_lcT ?_ | with_reducible refine w_lcR ?_
  | ((with_reducible refine a_tup ?hz ?_); (case hz => exact Nat.le_of_ble_eq_true rfl); intro _ _ _ _ _) | ((with_reducible refine a_lst ?hz ?_); (case hz => exact Nat.le_of_ble_eq_true rfl); intro _ _ _ _ _)
  | ((with_reducible refine k_turn1 ?hw ?_); (case hw => rfl)) | ((with_reducible refine k_turn ?hw ?_); (case hw => rfl)) | with_reducible refine r_isV ?_ | with_reducible refine r_isNotV ?_ | with_reducible refine r_isN ?_ | with_reducible refine r_notN ?_ | with_reducible refine w_lcZ ?_
  | ((with_reducible refine r_I ?hc ?_); (case hc => first | decide | assumption))
  | with_reducible refine w_forET ?_
  | ((with_reducible refine w_dnewK ?_); intro _ _ _ _ _) | with_reducible refine w_dput ?_ | with_reducible refine w_lstRg ?_ | with_reducible refine w_lstZip ?_ | with_reducible refine w_callK ?_
  | (with_reducible refine if_pos' ?_) | (with_reducible refine if_neg' ?_))
local macro_rules | `(tactic| walk_at "w") => `(tactic| repeat (walk_at "w1"))

section
variable {P : Program} {w : World} {K : PySem.W.Frag} {mg : Str → Option Value} {base : Heap}
abbrev s_isint : Stmt := topS 6
theorem sc_isint : FnScope ["value"] ["value"] (defScope s_isint) := ⟨rfl, rfl, rfl, by decide +kernel, rfl, by decide +kernel, by decide +kernel⟩
theorem C_isint (F : Fn K mg "is_integer" s_isint ["value"]) (Z : Bz mg) : Cal P w K mg base 1 "is_integer" spIntg := by
  have S := sc_isint
  refine F.cal S (fun vs H Q E h => ?_) (fun f cdv A' outer s H vs Q E hr h => ?_)
  · obtain ⟨M, v, d, rfl, _⟩ := h; rfl
  · obtain ⟨M, v, d, rfl, hv, q⟩ := h
    refine ⟨_, (pss_one (ps_ret (pe_and (pe_callB call_isi (by rfl) Z.isinstance (by decide +kernel) (pa_cons (pv 0) (pa_cons (pe_bltn (v := .ty "int") (by rfl) Z.int (by decide +kernel) rfl) pa_nil))) (pe_one (pe_not (pe_callB call_isi (by rfl) Z.isinstance (by decide +kernel) (pa_cons (pv 0) (pa_cons (pe_bltn (v := .ty "bool") (by rfl) Z.bool (by decide +kernel) rfl) pa_nil)))))))), ?_⟩
    try dsimp only [cxOf, Cx.nox, Cx.wish]
    walk_at "w"
    refine r_isiInt hv ?_
    walk_at "w"
    refine if_by (fun h => ?_) (fun h => ?_)
    · walk_at "w"
      refine r_isiBool hv ?_
      walk_at "w"
      have e : (!isBool d) = isIntg d := by cases d <;> simp [isInt, isBool, isIntg] at h ⊢
      rw [e]; exact q
    · have e : isIntg d = false := by cases d <;> simp [isInt, isIntg] at h ⊢
      rw [e] at q; exact q
abbrev s_iswid : Stmt := topS 10
theorem sc_iswid : FnScope ["value"] ["value"] (defScope s_iswid) := ⟨rfl, rfl, rfl, by decide +kernel, rfl, by decide +kernel, by decide +kernel⟩
theorem C_iswid (F : Fn K mg "is_width" s_iswid ["value"]) (Z : Bz mg) (g_MOST_WIDTH : ∃ u, mg "MOST_WIDTH" = some u ∧ RelV (.int 64) u) (C1 : Cal P w K mg base 1 "is_integer" spIntg) : Cal P w K mg base 2 "is_width" spWid := by
  have S := sc_iswid
  refine F.cal S (fun vs H Q E h => ?_) (fun f cdv A' outer s H vs Q E hr h => ?_)
  · obtain ⟨M, v, d, rfl, _⟩ := h; rfl
  · obtain ⟨M, v, d, rfl, hv, q⟩ := h
    refine ⟨_, (pss_one (ps_ret (pe_and (pe_c0 C1 hr (by omega) (by rfl) (pa_cons (pv 0) pa_nil)) (pe_one (pe_chain op_le op_le pe_int (pv 0) (pe_gc (by rfl) g_MOST_WIDTH)))))), ?_⟩
    try dsimp only [cxOf, Cx.nox, Cx.wish]
    walk_at "w"
    refine ⟨M, v, d, rfl, hv, ?_⟩
    walk_at "w"
    refine if_by (fun h => ?_) (fun h => ?_)
    · cases hv with
      | int n =>
        walk_at "w"
        by_cases h1 : (1 : Int) ≤ n
        · rw [decide_eq_true h1]
          walk_at "w"
          have e : isWid (.int n) = decide (n ≤ 64) := by simp [isWid, h1]
          rw [e] at q; exact q
        · rw [decide_eq_false h1]
          walk_at "w"
          have e : isWid (.int n) = false := by simp [isWid, h1]
          rw [e] at q; exact q
      | _ => simp [isIntg] at h
    · have e : isWid d = false := by cases d <;> simp [isWid, isIntg] at h ⊢
      rw [e] at q; exact q
abbrev s_isword : Stmt := topS 11
theorem sc_isword : FnScope ["value", "width"] ["value", "width"] (defScope s_isword) := ⟨rfl, rfl, rfl, by decide +kernel, rfl, by decide +kernel, by decide +kernel⟩
theorem C_isword (F : Fn K mg "is_word_of" s_isword ["value", "width"]) (Z : Bz mg) (C1 : Cal P w K mg base 1 "is_integer" spIntg) : Cal P w K mg base 2 "is_word_of" spWordOf := by
  have S := sc_isword
  refine F.cal S (fun vs H Q E h => ?_) (fun f cdv A' outer s H vs Q E hr h => ?_)
  · obtain ⟨M, v, d, w, rfl, _⟩ := h; rfl
  · obtain ⟨M, v, d, w, rfl, w1, w2, hv, q⟩ := h
    refine ⟨_, (pss_one (ps_ret (pe_and (pe_c0 C1 hr (by omega) (by rfl) (pa_cons (pv 0) pa_nil)) (pe_one (pe_chain op_le op_lt pe_int (pv 0) (pe_op op_shl pe_int (pv 1))))))), ?_⟩
    try dsimp only [cxOf, Cx.nox, Cx.wish]
    walk_at "w"
    refine ⟨M, v, d, rfl, hv, ?_⟩
    walk_at "w"
    refine if_by (fun h => ?_) (fun h => ?_)
    · cases hv with
      | int n =>
        walk_at "w"
        by_cases h1 : (0 : Int) ≤ n
        · rw [decide_eq_true h1]
          walk_at "w"
          refine r_I (shl_ok w2) ?_
          walk_at "w"
          have e : isWord w (.int n) = decide (n < 1 * 2 ^ (w : Int).toNat) := by simp [isWord, h1]
          rw [e] at q; exact q
        · rw [decide_eq_false h1]
          walk_at "w"
          have e : isWord w (.int n) = false := by simp [isWord, h1]
          rw [e] at q; exact q
      | _ => simp [isIntg] at h
    · have e : isWord w d = false := by cases d <;> simp [isWord, isIntg] at h ⊢
      rw [e] at q; exact q
end
end BkL
namespace BkL
open PySem PySem.Spec L2 BkG
local macro_rules | `(tactic| walk_at "w1") => `(tactic| first
  | with_reducible refine w_seq ?_ | with_reducible refine w_set ?_ | with_reducible refine w_ret ?_ | with_reducible refine w_drop ?_ | with_reducible refine w_ifS ?_
  | with_reducible refine w_next ?_ | with_reducible refine w_c ?_ | ((with_reducible refine' w_var ?hv ?_); (case hv => rfl)) | with_reducible refine w_op ?_ | with_reducible refine w_cons ?_ | with_reducible refine w_nil ?_
  | with_reducible refine w_cb ?_ | with_reducible refine w_call ?_ | with_reducible refine w_tup ?_ | with_reducible refine w_lst ?_ | with_reducible refine w_bm ?_ | with_reducible refine w_bm0 ?_ | with_reducible refine w_un ?_
  | with_reducible refine w_test ?_ | with_reducible refine w_B ?_ | with_reducible refine k_B ?_ | with_reducible refine w_and ?_ | with_reducible refine w_or ?_ | with_reducible refine w_not ?_ | with_reducible refine w_if ?_
  | with_reducible refine w_andV ?_ | with_reducible refine w_orV ?_ | with_reducible refine w_notV ?_ | with_reducible refine k_andV ?_ | with_reducible refine k_orV ?_ | with_reducible refine k_notV ?_
  | with_reducible refine w_chain ?_ | with_reducible refine ex_bl ?_ | with_reducible refine w_isN ?_ | with_reducible refine w_notN ?_ | with_reducible refine w_yes ?_
  | with_reducible refine r_I0 ?_ | with_reducible refine r_U ?_ | with_reducible refine r_eqI ?_ | with_reducible refine r_neI ?_ | with_reducible refine r_eqS ?_ | with_reducible refine r_neS ?_ | with_reducible refine r_eqB ?_ | with_reducible refine r_neB ?_
  | with_reducible refine r_abs ?_ | with_reducible refine r_int ?_ | with_reducible refine r_intB ?_
  | with_reducible refine w_sl ?_ | with_reducible refine w_nop ?_ | with_reducible refine w_part ?_ | with_reducible refine k_part ?_ | with_reducible refine w_revL ?_
  | with_reducible refine w_asg ?_ | with_reducible refine w_gname ?_ | with_reducible refine w_gsub ?_ | with_reducible refine w_gnil ?_ | with_reducible refine w_gcons ?_ | with_reducible refine w_retN ?_ | with_reducible refine w_brk ?_ | with_reducible refine w_cont ?_
  | with_reducible refine w_par ?_ | with_reducible refine w_par3 ?_ | with_reducible refine par_ok ?_ | with_reducible refine par_ok3 ?_ | ((with_reducible refine' w_aug ?hv ?_); (case hv => rfl)) | with_reducible refine i_I ?_
  | with_reducible refine w_forL ?_ | with_reducible refine w_forT ?_ | with_reducible refine w_forR1 ?_ | with_reducible refine w_forE ?_ | with_reducible refine w_lcL ?_ | with_reducible refine w_lcT ?_ | with_reducible refine w_lcR ?_
  | ((with_reducible refine a_tup ?hz ?_); (case hz => exact Nat.le_of_ble_eq_true rfl); intro _ _ _ _ _) | ((with_reducible refine a_lst ?hz ?_); (case hz => exact Nat.le_of_ble_eq_true rfl); intro _ _ _ _ _)
  | ((with_reducible refine k_turn1 ?hw ?_); (case hw => rfl)) | ((with_reducible refine k_turn ?hw ?_); (case hw => rfl)) | with_reducible refine r_isV ?_ | with_reducible refine r_isNotV ?_ | with_reducible refine r_isN ?_ | with_reducible refine r_notN ?_ | with_reducible refine w_lcZ ?_
  | ((with_reducible refine r_I ?hc ?_); (case hc => first | decide | assumption))
  | with_reducible refine w_forET ?_
  | ((with_reducible refine w_dnewK ?_); intro _ _ _ _ _) | with_reducible refine w_dput ?_ | with_reducible refine w_lstRg ?_ | with_reducible refine w_lstZip ?_ | with_reducible refine w_callK ?_
  | (with_reducible refine if_pos' ?_) | (with_reducible refine if_neg' ?_))
local macro_rules | `(tactic| walk_at "w") => `(tactic| repeat (walk_at "w1"))

local macro_rules | `(tactic| walk_at "c") => `(tactic| repeat (first | walk_at "w1" | with_reducible refine k_B ?_ | refine if_dt (by decide +kernel) ?_ | refine if_df (by decide +kernel) ?_ | refine r_in (.inr (.of (by assumption))) (by rfl) (by rfl) ?_ | refine r_in (.inl (.of (by assumption))) (by rfl) (by rfl) ?_))
def pairsV : List V := [.str "add", .str "sub", .str "mul", .str "both", .str "any", .str "mix", .str "less", .str "same", .str "div", .str "mod"]
section
variable {P : Program} {w : World} {K : PySem.W.Frag} {mg : Str → Option Value} {base : Heap} {cIW fIW cIQ fIQ cRe fRe : Addr}
abbrev s_chkw : Stmt := topS 12
theorem sc_chkw : FnScope ["width", "at"] ["width", "at"] (defScope s_chkw) := ⟨rfl, rfl, rfl, by decide +kernel, rfl, by decide +kernel, by decide +kernel⟩
theorem C_chkw (F : Fn K mg "checked_width" s_chkw ["width", "at"]) (Z : Bz mg) (T_InvalidWord : PySem.BkErr.ErrTxt P K mg "InvalidWord" cIW fIW) (C2 : Cal P w K mg base 2 "is_width" spWid) : CalR P w K mg base 3 "checked_width" ["width", "at"] (spChkWX P K mg) := by
  have S := sc_chkw
  refine F.calR S (fun vs H Q E h => ?_) (fun f cdv A' outer s H vs Q E hr h => ?_)
  · obtain ⟨M, v, x, d, rfl, _⟩ := h; rfl
  · obtain ⟨M, v, x, d, rfl, hv, q1, q2⟩ := h
    refine ⟨_, (pss_one (ps_if (pt_not (pt_val (pe_c0 C2 hr (by omega) (by rfl) (pa_cons (pv 0) pa_nil)))) (pss_one (ps_raiseErr rfl T_InvalidWord hr (takes_of rfl rfl rfl rfl) (pa_cons (pv 1) pa_nil))) pss_nil)), ?_⟩
    try dsimp only [cxOf, Cx.nox, Cx.wish]
    walk_at "w"
    refine ⟨M, v, d, rfl, hv, ?_⟩
    walk_at "w"
    refine if_by (fun h => ?_) (fun h => ?_)
    · have e : isWid d = false := by simpa using h
      refine w_raiseErr ?_
      walk_at "w"
      exact a_err T_InvalidWord (q2 e)
    · have e : isWid d = true := by simpa using h
      walk_at "w"
      exact q1 e
end
end BkL
namespace BkL
open PySem PySem.Spec L2 BkG
local macro_rules | `(tactic| walk_at "w1") => `(tactic| first
  | with_reducible refine w_seq ?_ | with_reducible refine w_set ?_ | with_reducible refine w_ret ?_ | with_reducible refine w_drop ?_ | with_reducible refine w_ifS ?_
  | with_reducible refine w_next ?_ | with_reducible refine w_c ?_ | ((with_reducible refine' w_var ?hv ?_); (case hv => rfl)) | with_reducible refine w_op ?_ | with_reducible refine w_cons ?_ | with_reducible refine w_nil ?_
  | with_reducible refine w_cb ?_ | with_reducible refine w_call ?_ | with_reducible refine w_tup ?_ | with_reducible refine w_lst ?_ | with_reducible refine w_bm ?_ | with_reducible refine w_bm0 ?_ | with_reducible refine w_un ?_
  | with_reducible refine w_test ?_ | with_reducible refine w_B ?_ | with_reducible refine k_B ?_ | with_reducible refine w_and ?_ | with_reducible refine w_or ?_ | with_reducible refine w_not ?_ | with_reducible refine w_if ?_
  | with_reducible refine w_andV ?_ | with_reducible refine w_orV ?_ | with_reducible refine w_notV ?_ | with_reducible refine k_andV ?_ | with_reducible refine k_orV ?_ | with_reducible refine k_notV ?_
  | with_reducible refine w_chain ?_ | with_reducible refine ex_bl ?_ | with_reducible refine w_isN ?_ | with_reducible refine w_notN ?_ | with_reducible refine w_yes ?_
  | with_reducible refine r_I0 ?_ | with_reducible refine r_U ?_ | with_reducible refine r_eqI ?_ | with_reducible refine r_neI ?_ | with_reducible refine r_eqS ?_ | with_reducible refine r_neS ?_ | with_reducible refine r_eqB ?_ | with_reducible refine r_neB ?_
  | with_reducible refine r_abs ?_ | with_reducible refine r_int ?_ | with_reducible refine r_intB ?_
  | with_reducible refine w_sl ?_ | with_reducible refine w_nop ?_ | with_reducible refine w_part ?_ | with_reducible refine k_part ?_ | with_reducible refine w_revL ?_
  | with_reducible refine w_asg ?_ | with_reducible refine w_gname ?_ | with_reducible refine w_gsub ?_ | with_reducible refine w_gnil ?_ | with_reducible refine w_gcons ?_ | with_reducible refine w_retN ?_ | with_reducible refine w_brk ?_ | with_reducible refine w_cont ?_
  | with_reducible refine w_par ?_ | with_reducible refine w_par3 ?_ | with_reducible refine par_ok ?_ | with_reducible refine par_ok3 ?_ | ((with_reducible refine' w_aug ?hv ?_); (case hv => rfl)) | with_reducible refine i_I ?_
  | with_reducible refine w_forL ?_ | with_reducible refine w_forT ?_ | with_reducible refine w_forR1 ?_ | with_reducible refine w_forE ?_ | with_reducible refine w_lcL ?_ | with_reducible refine w_lcT ?_ | with_reducible refine w_lcR ?_
  | ((with_reducible refine a_tup ?hz ?_); (case hz => exact Nat.le_of_ble_eq_true rfl); intro _ _ _ _ _) | ((with_reducible refine a_lst ?hz ?_); (case hz => exact Nat.le_of_ble_eq_true rfl); intro _ _ _ _ _)
  | ((with_reducible refine k_turn1 ?hw ?_); (case hw => rfl)) | ((with_reducible refine k_turn ?hw ?_); (case hw => rfl)) | with_reducible refine r_isV ?_ | with_reducible refine r_isNotV ?_ | with_reducible refine r_isN ?_ | with_reducible refine r_notN ?_ | with_reducible refine w_lcZ ?_
  | ((with_reducible refine r_I ?hc ?_); (case hc => first | decide | assumption))
  | with_reducible refine w_forET ?_
  | ((with_reducible refine w_dnewK ?_); intro _ _ _ _ _) | with_reducible refine w_dput ?_ | with_reducible refine w_lstRg ?_ | with_reducible refine w_lstZip ?_ | with_reducible refine w_callK ?_
  | (with_reducible refine if_pos' ?_) | (with_reducible refine if_neg' ?_))
local macro_rules | `(tactic| walk_at "w") => `(tactic| repeat (walk_at "w1"))

local macro_rules | `(tactic| walk_at "c") => `(tactic| repeat (first | walk_at "w1" | with_reducible refine k_B ?_ | refine if_dt (by decide +kernel) ?_ | refine if_df (by decide +kernel) ?_ | refine r_in (.inr (.of (by assumption))) (by rfl) (by rfl) ?_ | refine r_in (.inl (.of (by assumption))) (by rfl) (by rfl) ?_))
section
variable {P : Program} {w : World} {K : PySem.W.Frag} {mg : Str → Option Value} {base : Heap} {cIW fIW cIQ fIQ cRe fRe : Addr}
abbrev s_isseq : Stmt := topS 7
theorem sc_isseq : FnScope ["value"] ["value"] (defScope s_isseq) := ⟨rfl, rfl, rfl, by decide +kernel, rfl, by decide +kernel, by decide +kernel⟩
theorem C_isseq (F : Fn K mg "is_sequence" s_isseq ["value"]) (Z : Bz mg) : Cal P w K mg base 1 "is_sequence" spSeqq := by
  have S := sc_isseq
  refine F.cal S (fun vs H Q E h => ?_) (fun f cdv A' outer s H vs Q E hr h => ?_)
  · obtain ⟨M, v, d, rfl, _⟩ := h; rfl
  · obtain ⟨M, v, d, rfl, hv, q⟩ := h
    refine ⟨_, (pss_one (ps_ret (pe_callB call_isiT (by rfl) Z.isinstance (by decide +kernel) (pa_cons (pv 0) (pa_cons (pe_tup (pa_cons (pe_bltn (v := .ty "list") (by rfl) Z.list (by decide +kernel) rfl) (pa_cons (pe_bltn (v := .ty "tuple") (by rfl) Z.tuple (by decide +kernel) rfl) pa_nil))) pa_nil))))), ?_⟩
    try dsimp only [cxOf, Cx.nox, Cx.wish]
    walk_at "w"
    rename_i p1 H1 hp1 e1 h1
    exact r_isiLT h1 (hv.ex e1) (q H1 e1)
abbrev s_iskind : Stmt := topS 18
theorem sc_iskind : FnScope ["value"] ["value"] (defScope s_iskind) := ⟨rfl, rfl, rfl, by decide +kernel, rfl, by decide +kernel, by decide +kernel⟩
theorem C_iskind (F : Fn K mg "is_kind" s_iskind ["value"]) (Z : Bz mg) (gT_KINDS : ∃ pa, (∃ u, mg "KINDS" = some u ∧ RelV (.ref pa) u) ∧ ∀ H, SqT K H pa kindsV) : CalK P w K mg base 1 "is_kind" ["value"] spKind := by
  have S := sc_iskind
  obtain ⟨pa, g_KINDS, gp⟩ := gT_KINDS
  refine F.calK S (fun vs H Q E h => ?_) (fun f cdv A' outer s H vs Q E hr h => ?_)
  · obtain ⟨M, v, d, rfl, _⟩ := h; rfl
  · obtain ⟨M, v, d, rfl, hv, q⟩ := h
    refine ⟨_, (pss_one (ps_ret (pe_and (pe_callB call_isi (by rfl) Z.isinstance (by decide +kernel) (pa_cons (pv 0) (pa_cons (pe_bltn (v := .ty "str") (by rfl) Z.str (by decide +kernel) rfl) pa_nil))) (pe_one (pe_cmpR op_in_seq (pv 0) (pe_gc (by rfl) g_KINDS) (by rfl)))))), ?_⟩
    try dsimp only [cxOf, Cx.nox, Cx.wish]
    walk_at "w"
    refine r_isiStr hv ?_
    walk_at "w"
    refine if_by (fun h => ?_) (fun h => ?_)
    · cases hv with
      | str x =>
        walk_at "w"
        exact r_in (.inr (gp _)) rfl (by rfl) q
      | _ => cases h
    · have e : isKindD d = false := by cases d <;> simp [isStr, isKindD] at h ⊢
      rw [e] at q; exact q
abbrev s_arekinds : Stmt := topS 19
theorem sc_arekinds : FnScope ["value", "one"] ["value"] (defScope s_arekinds) := ⟨rfl, rfl, rfl, by decide +kernel, rfl, by decide +kernel, by decide +kernel⟩
theorem C_arekinds (F : Fn K mg "are_kinds" s_arekinds ["value"]) (Z : Bz mg) (g_MOST_KINDS : ∃ u, mg "MOST_KINDS" = some u ∧ RelV (.int 20) u) (CK : Cal P w K mg base 1 "is_kind" spKind) : CalK P w K mg base 2 "are_kinds" ["value"] spKinds := by
  have S := sc_arekinds
  refine F.calK S (fun vs H Q E h => ?_) (fun f cdv A' outer s H vs Q E hr h => ?_)
  · obtain ⟨M, v, d, rfl, _⟩ := h; rfl
  · obtain ⟨M, v, d, rfl, hv, q⟩ := h
    refine ⟨_, (pss_one (ps_ret (pe_and (pe_callB call_isi (by rfl) Z.isinstance (by decide +kernel) (pa_cons (pv 0) (pa_cons (pe_bltn (v := .ty "tuple") (by rfl) Z.tuple (by decide +kernel) rfl) pa_nil))) (pe_and (pe_cmpR op_le (pe_callB (cr_len) (by rfl) Z.len (by decide +kernel) (pa_cons (pv 0) pa_nil)) (pe_gc (by rfl) g_MOST_KINDS) (nomark _)) (pe_one (pe_callB (cr_all rfl) (by rfl) Z.all (by decide +kernel) (pa_cons (pe_lc (own := [("one", 1)]) (g := (gName 1)) (tt := tYes) rfl S.nd (pi_tup (pv 0)) (blkOk_by (N := ["value", "one"]) (sc := defScope s_arekinds) (by decide +kernel)) (fun _ _ _ _ _ => (pg_name (i := 1) S.nd rfl (Or.inl rfl))) (fun _ _ _ _ _ => pts_nil) (fun _ _ _ _ _ => (pe_c0 CK hr (by omega) (by rfl) (pa_cons (pv 1) pa_nil)))) pa_nil))))))), ?_⟩
    try dsimp only [cxOf, Cx.nox, Cx.wish]
    walk_at "w"
    refine r_isiTup hv ?_
    walk_at "w"
    refine if_by (fun h => ?_) (fun h => ?_)
    · obtain ⟨ds, rfl⟩ : ∃ ds, d = .tuple ds := by cases d <;> simp [isTup] at h ⊢
      obtain ⟨a, xs, rfl, ha, hl, ht⟩ := hv.tup_inv
      walk_at "w"
      refine r_len (.inr (.of ha)) rfl ?_
      walk_at "w"
      refine if_by (fun h => ?_) (fun h => ?_)
      · have hn : ds.length ≤ 20 := by have h' := of_decide_eq_true h; omega
        walk_at "w"
        refine k_lcT (.of ha) (lcT (xs := xs) (fun i acc D H' => Ex H H' ∧ acc = ((ds.take i).map isKindD).map V.bl) (fun D H2 _ e _ => ⟨e, rfl⟩) (fun i acc D H' _ p => .of (p.1 _ _ ha)) (fun i x acc D H' hx hlt hD hacc p => ?_) (fun acc D H' _ hD hacc p => ?_))
        · obtain ⟨e, rfl⟩ := p
          obtain ⟨y, hy⟩ := get_of_len hl hx
          have hi : i < ds.length := (List.getElem?_eq_some_iff.mp hy).1
          walk_at "w"
          refine ⟨M, x, y, rfl, (ht i x y hx hy).ex e, ?_⟩
          refine k_lc hacc hlt (by omega) fun H5 h5 k5 => ⟨e.mut hD k5, ?_⟩
          rw [take_map_more hy, List.map_append]; rfl
        · obtain ⟨e, rfl⟩ := p
          rw [hl, List.take_length] at hacc
          refine r_all hacc ?_
          have q' := q H' e
          rw [show areKindsD (.tuple ds) = (ds.map isKindD).all id by simp [areKindsD, hn, List.all_map]] at q'
          exact q'
      · have e : areKindsD (.tuple ds) = false := by
          have h' : ¬ ((xs.length : Int) ≤ 20) := of_decide_eq_false (by simpa using h)
          have hn : ¬ ds.length ≤ 20 := by omega
          simp [areKindsD, hn]
        have q' := q H (fun _ _ h => h)
        rw [e] at q'; exact q'
    · have e : areKindsD d = false := by cases d <;> simp [isTup, areKindsD] at h ⊢
      have q' := q H (fun _ _ h => h)
      rw [e] at q'; exact q'
abbrev s_arewords : Stmt := topS 20
theorem sc_arewords : FnScope ["value", "width", "most", "one"] ["value", "width", "most"] (defScope s_arewords) := ⟨rfl, rfl, rfl, by decide +kernel, rfl, by decide +kernel, by decide +kernel⟩
theorem C_arewords (F : Fn K mg "are_words" s_arewords ["value", "width", "most"]) (Z : Bz mg) (C3 : Cal P w K mg base 2 "is_word_of" spWordOf) : Cal P w K mg base 3 "are_words" spWords := by
  have S := sc_arewords
  refine F.cal S (fun vs H Q E h => ?_) (fun f cdv A' outer s H vs Q E hr h => ?_)
  · obtain ⟨M, v, d, w, most, rfl, _⟩ := h; rfl
  · obtain ⟨M, v, d, w, most, rfl, w1, w2, hm, hv, q⟩ := h
    refine ⟨_, (pss_one (ps_ret (pe_and (pe_callB call_isi (by rfl) Z.isinstance (by decide +kernel) (pa_cons (pv 0) (pa_cons (pe_bltn (v := .ty "tuple") (by rfl) Z.tuple (by decide +kernel) rfl) pa_nil))) (pe_and (pe_cmpR op_le (pe_callB (cr_len) (by rfl) Z.len (by decide +kernel) (pa_cons (pv 0) pa_nil)) (pv 2) (nomark _)) (pe_one (pe_callB (cr_all rfl) (by rfl) Z.all (by decide +kernel) (pa_cons (pe_lc (own := [("one", 3)]) (g := (gName 3)) (tt := tYes) rfl S.nd (pi_tup (pv 0)) (blkOk_by (N := ["value", "width", "most", "one"]) (sc := defScope s_arewords) (by decide +kernel)) (fun _ _ _ _ _ => (pg_name (i := 3) S.nd rfl (Or.inl rfl))) (fun _ _ _ _ _ => pts_nil) (fun _ _ _ _ _ => (pe_c0 C3 hr (by omega) (by rfl) (pa_cons (pv 3) (pa_cons (pv 1) pa_nil))))) pa_nil))))))), ?_⟩
    try dsimp only [cxOf, Cx.nox, Cx.wish]
    walk_at "w"
    refine r_isiTup hv ?_
    walk_at "w"
    refine if_by (fun h => ?_) (fun h => ?_)
    · obtain ⟨ds, rfl⟩ : ∃ ds, d = .tuple ds := by cases d <;> simp [isTup] at h ⊢
      obtain ⟨a, xs, rfl, ha, hl, ht⟩ := hv.tup_inv
      walk_at "w"
      refine r_len (.inr (.of ha)) rfl ?_
      walk_at "w"
      refine if_by (fun h => ?_) (fun h => ?_)
      · have hn : ds.length ≤ most := by have h' := of_decide_eq_true h; omega
        walk_at "w"
        refine k_lcT (.of ha) (lcT (xs := xs) (fun i acc D H' => Ex H H' ∧ acc = ((ds.take i).map (isWord w)).map V.bl) (fun D H2 _ e _ => ⟨e, rfl⟩) (fun i acc D H' _ p => .of (p.1 _ _ ha)) (fun i x acc D H' hx hlt hD hacc p => ?_) (fun acc D H' _ hD hacc p => ?_))
        · obtain ⟨e, rfl⟩ := p
          obtain ⟨y, hy⟩ := get_of_len hl hx
          have hi : i < ds.length := (List.getElem?_eq_some_iff.mp hy).1
          walk_at "w"
          refine ⟨M, x, y, w, rfl, w1, w2, (ht i x y hx hy).ex e, ?_⟩
          refine k_lc hacc hlt (by omega) fun H5 h5 k5 => ⟨e.mut hD k5, ?_⟩
          rw [take_map_more hy, List.map_append]; rfl
        · obtain ⟨e, rfl⟩ := p
          rw [hl, List.take_length] at hacc
          refine r_all hacc ?_
          have q' := q H' e
          rw [show wordsD w most (.tuple ds) = (ds.map (isWord w)).all id by simp [wordsD, hn, List.all_map]] at q'
          exact q'
      · have e : wordsD w most (.tuple ds) = false := by
          have h' : ¬ ((xs.length : Int) ≤ most) := of_decide_eq_false (by simpa using h)
          have hn : ¬ ds.length ≤ most := by omega
          simp [wordsD, hn]
        have q' := q H (fun _ _ h => h)
        rw [e] at q'; exact q'
    · have e : wordsD w most d = false := by cases d <;> simp [isTup, wordsD] at h ⊢
      have q' := q H (fun _ _ h => h)
      rw [e] at q'; exact q'
abbrev s_ofkind : Stmt := topS 21
theorem sc_ofkind : FnScope ["value", "kind", "width"] ["value", "kind", "width"] (defScope s_ofkind) := ⟨rfl, rfl, rfl, by decide +kernel, rfl, by decide +kernel, by decide +kernel⟩
theorem C_ofkind (F : Fn K mg "is_of_kind" s_ofkind ["value", "kind", "width"]) (Z : Bz mg) (g_MOST_ENTRIES : ∃ u, mg "MOST_ENTRIES" = some u ∧ RelV (.int 200) u) (g_MOST_STACK : ∃ u, mg "MOST_STACK" = some u ∧ RelV (.int 2000) u) (C3 : Cal P w K mg base 2 "is_word_of" spWordOf) (CAw : Cal P w K mg base 3 "are_words" spWords) :
    Cal P w K mg base 4 "is_of_kind" spOfKind := by
  have S := sc_ofkind
  refine F.cal S (fun vs H Q E h => ?_) (fun f cdv A' outer s H vs Q E hr h => ?_)
  · obtain ⟨M, v, d, k, w, rfl, _⟩ := h; rfl
  · obtain ⟨M, v, d, k, w, rfl, hk, w1, w2, hv, hn, q⟩ := h
    refine ⟨_, (pss_cons (ps_if (pt_cmpR op_eq (pv 1) pe_str (nomark _)) (pss_one (ps_ret (pe_c0 C3 hr (by omega) (by rfl) (pa_cons (pv 0) (pa_cons (pv 2) pa_nil))))) pss_nil)
      (pss_cons (ps_if (pt_cmpR op_eq (pv 1) pe_str (nomark _)) (pss_one (ps_ret (pe_and (pe_c0 CAw hr (by omega) (by rfl) (pa_cons (pv 0) (pa_cons (pv 2) (pa_cons (pe_gc (by rfl) g_MOST_ENTRIES) pa_nil)))) (pe_one (pe_cmpR (op_neD hr.units) (pv 0) (pe_tup pa_nil) (nomark _)))))) pss_nil)
      (pss_cons (ps_if (PW.pt (pw_or (pt_not (pt_val (pe_callB call_isi (by rfl) Z.isinstance (by decide +kernel) (pa_cons (pv 0) (pa_cons (pe_bltn (v := .ty "tuple") (by rfl) Z.tuple (by decide +kernel) rfl) pa_nil))))) (pw_or (pt_cmpR op_ne (pe_callB (cr_len) (by rfl) Z.len (by decide +kernel) (pa_cons (pv 0) pa_nil)) pe_int (nomark _)) (pw_or1 (pt_cmpR (op_neD hr.units) (pe_ix ix_tup (pv 0) pe_int (fun _ _ => rfl)) (pe_ifExp (pt_cmpR op_eq (pv 1) pe_str (nomark _)) pe_str pe_str) (nomark _)))))) (pss_one (ps_ret pe_bl)) pss_nil)
      (pss_one (ps_ret (pe_c0 CAw hr (by omega) (by rfl) (pa_cons (pe_ix ix_tup (pv 0) pe_int (fun _ _ => rfl)) (pa_cons (pv 2) (pa_cons (pe_gc (by rfl) g_MOST_STACK) pa_nil))))))))), ?_⟩
    try dsimp only [cxOf, Cx.nox, Cx.wish]
    have gen : ∀ j, isOfD w (j + 2) d = (match d with | .tuple [h, t] => strIs h (tagK (j + 2)) && wordsD w 2000 t | _ => false) := by
      intro j
      cases d with
      | tuple ds =>
        cases ds with
        | nil => rfl
        | cons a r => cases r with
          | nil => rfl
          | cons b r => cases r <;> rfl
      | _ => rfl
    rcases cases5 hk with rfl | rfl | rfl | rfl | rfl
    · walk_at "c"
      exact ⟨M, v, d, w, rfl, w1, w2, hv, q H (fun _ _ h => h)⟩
    · walk_at "c"
      refine ⟨M, v, d, w, 200, rfl, w1, w2, by decide, hv, fun H1 e1 => ?_⟩
      walk_at "w"
      refine if_by (fun h => ?_) (fun h => ?_)
      · obtain ⟨ds, rfl⟩ : ∃ ds, d = .tuple ds := by cases d <;> simp [wordsD] at h ⊢
        walk_at "w"
        rename_i p2 H2 hp2 e2 h2
        refine r_neD2 ((hv.ex e1).ex e2) (dv_nilT h2) hn (by rfl) ?_
        rw [eqv_nilT]
        have q' := q H2 (e1.trans e2)
        rw [show isOfD w 1 (.tuple ds) = !ds.isEmpty by simp [isOfD, h]] at q'
        exact q'
      · have e : isOfD w 1 d = false := by
          have h' : wordsD w 200 d = false := by simpa using h
          cases d <;> simp [isOfD, h'] at h' ⊢
        have q' := q H1 e1
        rw [e] at q'; exact q'
    all_goals
      walk_at "c"
      refine r_isiTup hv ?_
      walk_at "w"
      refine if_by (fun h => ?_) (fun h => ?_)
      · have e : isTup d = false := by simpa using h
        walk_at "w"
        have q' := q H (fun _ _ h => h)
        rw [gen] at q'
        cases d <;> first | (simp [isTup] at e; done) | exact q'
      · obtain ⟨ds, rfl⟩ : ∃ ds, d = .tuple ds := by cases d <;> simp [isTup] at h ⊢
        obtain ⟨a, xs, rfl, ha, hl, ht⟩ := hv.tup_inv
        walk_at "w"
        refine r_len (.inr (.of ha)) rfl ?_
        walk_at "w"
        refine if_by (fun h => ?_) (fun h => ?_)
        · have e : ds.length ≠ 2 := by
            have h' : ((xs.length : Int)) ≠ 2 := by simpa using h
            omega
          walk_at "w"
          have q' := q H (fun _ _ h => h)
          rw [gen] at q'
          rcases ds with _ | ⟨y, _ | ⟨z, _ | ⟨u, ds⟩⟩⟩
          · exact q'
          · exact q'
          · exact absurd rfl e
          · exact q'
        · have e : ds.length = 2 := by
            have h' : ((xs.length : Int)) = 2 := by simpa using h
            omega
          obtain ⟨y, z, rfl⟩ : ∃ y z, ds = [y, z] := by
            rcases ds with _ | ⟨y, _ | ⟨z, _ | ⟨u, ds⟩⟩⟩
            · cases e
            · cases e
            · exact ⟨_, _, rfl⟩
            · simp at e
          obtain ⟨x1, x2, rfl⟩ : ∃ y z, xs = [y, z] := by
            rcases xs with _ | ⟨y, _ | ⟨z, _ | ⟨u, ds⟩⟩⟩
            · cases hl
            · cases hl
            · exact ⟨_, _, rfl⟩
            · simp at hl
          have d1 := ht 0 x1 y rfl rfl
          have d2 := ht 1 x2 z rfl rfl
          have g2 : ∀ j, isOfD w (j + 2) (.tuple [y, z]) = (strIs y (tagK (j + 2)) && wordsD w 2000 z) := fun _ => rfl
          have n1 := nice.tup_in (n := 59) hn (d := y) (by simp)
          walk_at "w"
          refine r_ixT (.of ha) (v := x1) (by rfl) ?_
          walk_at "c"
          refine r_neD2 d1 (.str _) (nice.mono n1 (by decide)) (by decide +kernel) ?_
          rw [eqv_str]
          walk_at "w"
          refine if_by (fun h => ?_) (fun h => ?_)
          · walk_at "w"
            have q' := q H (fun _ _ h => h)
            rw [g2] at q'
            have e1 := (Bool.not_eq_true' _).mp h
            skip
            have q2 := q'
            first
              | (rw [show tagK (0 + 2) = ("stack" : Str) from rfl, e1] at q2; exact q2)
              | (rw [show tagK (1 + 2) = ("channel" : Str) from rfl, e1] at q2; exact q2)
              | (rw [show tagK (2 + 2) = ("channel" : Str) from rfl, e1] at q2; exact q2)
          · walk_at "w"
            refine r_ixT (.of ha) (v := x2) (by rfl) ?_
            walk_at "w"
            refine ⟨M, x2, z, w, 2000, rfl, w1, w2, by decide, d2, fun H1 e1 => ?_⟩
            have q' := q H1 e1
            rw [g2] at q'
            have e1 := (Bool.not_eq_false' _).mp h
            skip
            have q2 := q'
            first
              | (rw [show tagK (0 + 2) = ("stack" : Str) from rfl, e1] at q2; exact q2)
              | (rw [show tagK (1 + 2) = ("channel" : Str) from rfl, e1] at q2; exact q2)
              | (rw [show tagK (2 + 2) = ("channel" : Str) from rfl, e1] at q2; exact q2)
end
end BkL
namespace BkL
open PySem PySem.Spec L2 BkG
local macro_rules | `(tactic| walk_at "w1") => `(tactic| first
  | with_reducible refine w_seq ?_ | with_reducible refine w_set ?_ | with_reducible refine w_ret ?_ | with_reducible refine w_drop ?_ | with_reducible refine w_ifS ?_
  | with_reducible refine w_next ?_ | with_reducible refine w_c ?_ | ((with_reducible refine' w_var ?hv ?_); (case hv => rfl)) | with_reducible refine w_op ?_ | with_reducible refine w_cons ?_ | with_reducible refine w_nil ?_
  | with_reducible refine w_cb ?_ | with_reducible refine w_call ?_ | with_reducible refine w_tup ?_ | with_reducible refine w_lst ?_ | with_reducible refine w_bm ?_ | with_reducible refine w_bm0 ?_ | with_reducible refine w_un ?_
  | with_reducible refine w_test ?_ | with_reducible refine w_B ?_ | with_reducible refine k_B ?_ | with_reducible refine w_and ?_ | with_reducible refine w_or ?_ | with_reducible refine w_not ?_ | with_reducible refine w_if ?_
  | with_reducible refine w_andV ?_ | with_reducible refine w_orV ?_ | with_reducible refine w_notV ?_ | with_reducible refine k_andV ?_ | with_reducible refine k_orV ?_ | with_reducible refine k_notV ?_
  | with_reducible refine w_chain ?_ | with_reducible refine ex_bl ?_ | with_reducible refine w_isN ?_ | with_reducible refine w_notN ?_ | with_reducible refine w_yes ?_
  | with_reducible refine r_I0 ?_ | with_reducible refine r_U ?_ | with_reducible refine r_eqI ?_ | with_reducible refine r_neI ?_ | with_reducible refine r_eqS ?_ | with_reducible refine r_neS ?_ | with_reducible refine r_eqB ?_ | with_reducible refine r_neB ?_
  | with_reducible refine r_abs ?_ | with_reducible refine r_int ?_ | with_reducible refine r_intB ?_
  | with_reducible refine w_sl ?_ | with_reducible refine w_nop ?_ | with_reducible refine w_part ?_ | with_reducible refine k_part ?_ | with_reducible refine w_revL ?_
  | with_reducible refine w_asg ?_ | with_reducible refine w_gname ?_ | with_reducible refine w_gsub ?_ | with_reducible refine w_gnil ?_ | with_reducible refine w_gcons ?_ | with_reducible refine w_retN ?_ | with_reducible refine w_brk ?_ | with_reducible refine w_cont ?_
  | with_reducible refine w_par ?_ | with_reducible refine w_par3 ?_ | with_reducible refine par_ok ?_ | with_reducible refine par_ok3 ?_ | ((with_reducible refine' w_aug ?hv ?_); (case hv => rfl)) | with_reducible refine i_I ?_
  | with_reducible refine w_forL ?_ | with_reducible refine w_forT ?_ | with_reducible refine w_forR1 ?_ | with_reducible refine w_forE ?_ | with_reducible refine w_lcL ?_ | with_reducible refine w_lcT ?_ | with_reducible refine w_lcR ?_
  | ((with_reducible refine a_tup ?hz ?_); (case hz => exact Nat.le_of_ble_eq_true rfl); intro _ _ _ _ _) | ((with_reducible refine a_lst ?hz ?_); (case hz => exact Nat.le_of_ble_eq_true rfl); intro _ _ _ _ _)
  | ((with_reducible refine k_turn1 ?hw ?_); (case hw => rfl)) | ((with_reducible refine k_turn ?hw ?_); (case hw => rfl)) | with_reducible refine r_isV ?_ | with_reducible refine r_isNotV ?_ | with_reducible refine r_isN ?_ | with_reducible refine r_notN ?_ | with_reducible refine w_lcZ ?_
  | ((with_reducible refine r_I ?hc ?_); (case hc => first | decide | assumption))
  | with_reducible refine w_forET ?_
  | ((with_reducible refine w_dnewK ?_); intro _ _ _ _ _) | with_reducible refine w_dput ?_ | with_reducible refine w_lstRg ?_ | with_reducible refine w_lstZip ?_ | with_reducible refine w_callK ?_
  | (with_reducible refine if_pos' ?_) | (with_reducible refine if_neg' ?_))
local macro_rules | `(tactic| walk_at "w") => `(tactic| repeat (walk_at "w1"))

local macro_rules | `(tactic| walk_at "c") => `(tactic| repeat (first | walk_at "w1" | with_reducible refine k_B ?_ | refine if_dt (by decide +kernel) ?_ | refine if_df (by decide +kernel) ?_ | refine r_in (.inr (.of (by assumption))) (by rfl) (by rfl) ?_ | refine r_in (.inl (.of (by assumption))) (by rfl) (by rfl) ?_))
theorem any_filter {α : Type} (f : α → Bool) (l : List α) : (l.map f).any id = !(l.filter f).isEmpty := by
  induction l with
  | nil => rfl
  | cons a l ih => by_cases h : f a = true <;> simp [h, ih]
theorem filter_snoc {f : Nat → Bool} {i : Nat} : (List.range (i + 1)).filter f = (List.range i).filter f ++ (if f i = true then [i] else []) := by
  rw [List.range_succ, List.filter_append]; congr 1; by_cases h : f i = true <;> simp [h]
theorem zip_take_more {α β : Type} {xs : List α} {ys : List β} {i : Nat} {x : α} {y : β} (hx : xs[i]? = some x) (hy : ys[i]? = some y) : (xs.zip ys).take (i + 1) = (xs.zip ys).take i ++ [(x, y)] := by
  rw [List.take_add_one, (List.getElem?_zip_eq_some (z := (x, y))).mpr ⟨hx, hy⟩]; rfl
theorem kindsT_at {ks : List Nat} {i : Nat} {d : PyData} (h : (kindsT ks)[i]? = some d) : ∃ k, ks[i]? = some k ∧ d = .str (kindS k) := by
  unfold kindsT at h; exact map_some h
def noneV (t1 t3 t5 t7 : Addr) : Nat → V
  | 0 => .int 0 | 1 => .ref t1 | 2 => .ref t3 | 3 => .ref t5 | _ => .ref t7
theorem tupOne {M : List Addr} {H : Hp} {p : Addr} {z : Int} (h : H p = some (.tup [.int z])) : Dv M H (.ref p) (.tuple [.int z]) := by
  refine .tup h rfl fun i v d h1 h2 => ?_
  rcases i with _ | i
  · cases h1; cases h2; exact .int _
  · cases h1
theorem tupTag {M : List Addr} {H : Hp} {p q : Addr} {t : Str} (h : H p = some (.tup [.str t, .ref q])) (h2 : H q = some (.tup [])) : Dv M H (.ref p) (.tuple [.str t, .tuple []]) := by
  refine .tup h rfl fun i v d h1 h3 => ?_
  rcases i with _ | _ | i
  · cases h1; cases h3; exact .str _
  · cases h1; cases h3; exact dv_nilT h2
  · cases h1
section
variable {P : Program} {w : World} {K : PySem.W.Frag} {mg : Str → Option Value} {base : Heap} {cIW fIW cIQ fIQ cRe fRe : Addr}
abbrev s_isvalue : Stmt := topS 22
theorem sc_isvalue : FnScope ["value", "width", "kind"] ["value", "width"] (defScope s_isvalue) := ⟨rfl, rfl, rfl, by decide +kernel, rfl, by decide +kernel, by decide +kernel⟩
theorem C_isvalue (F : Fn K mg "is_value" s_isvalue ["value", "width"]) (Z : Bz mg) (gT_KINDS : ∃ pa, (∃ u, mg "KINDS" = some u ∧ RelV (.ref pa) u) ∧ ∀ H, SqT K H pa kindsV) (C4 : CalR P w K mg base 3 "checked_width" ["width", "at"] (spChkWX P K mg)) (COk : Cal P w K mg base 4 "is_of_kind" spOfKind) : CalR P w K mg base 5 "is_value" ["value", "width"] (spIsValue P K mg) := by
  have S := sc_isvalue
  obtain ⟨pa, g_KINDS, gp⟩ := gT_KINDS
  refine F.calR S (fun vs H Q E h => ?_) (fun f cdv A' outer s H vs Q E hr h => ?_)
  · obtain ⟨M, v, u, d, e, rfl, _⟩ := h; rfl
  · obtain ⟨M, v, u, d, e, rfl, hv, hn, hu, q1, q2⟩ := h
    refine ⟨_, (pss_cons (ps_expr (pe_cr C4 hr (by omega) (by rfl) (takes_of rfl rfl rfl rfl) (fun _ _ _ _ h => h) (pa_cons (pv 1) (pa_cons pe_int pa_nil))))
      (pss_one (ps_ret (pe_callB (cr_any rfl) (by rfl) Z.any (by decide +kernel) (pa_cons (pe_lc (own := [("kind", 2)]) (g := (gName 2)) (tt := tYes) rfl S.nd (pi_tup (pe_gc (by rfl) g_KINDS)) (blkOk_by (N := ["value", "width", "kind"]) (sc := defScope s_isvalue) (by decide +kernel)) (fun _ _ _ _ _ => (pg_name (i := 2) S.nd rfl (Or.inl rfl))) (fun _ _ _ _ _ => pts_nil) (fun _ _ _ _ _ => (pe_c0 COk hr (by omega) (by rfl) (pa_cons (pv 0) (pa_cons (pv 2) (pa_cons (pv 1) pa_nil)))))) pa_nil))))), ?_⟩
    try dsimp only [cxOf, Cx.nox, Cx.wish]
    walk_at "w"
    refine ⟨M, u, .int 1, e, rfl, hu, fun hw => ?_, fun hw => q2 hw⟩
    have q1' := q1 hw
    obtain ⟨w, rfl, w1, w2⟩ := isWid_int hw
    cases hu
    rw [show widOf (.int (w : Int)) = w by simp [widOf]] at q1'
    walk_at "w"
    refine k_lcT (gp _) (lcT (xs := kindsV) (fun i acc D H' => Ex H H' ∧ acc = ((List.range i).map fun k => isOfD w k d).map V.bl) (fun D H2 _ e _ => ⟨e, rfl⟩) (fun i acc D H' _ p => gp _) (fun i x acc D H' hx hlt hD hacc p => ?_) (fun acc D H' _ hD hacc p => ?_))
    · obtain ⟨e, rfl⟩ := p
      obtain ⟨hi, rfl⟩ := kind_at hx
      walk_at "w"
      refine ⟨M, v, d, i, w, rfl, hi, w1, w2, hv.ex e, hn, fun H3 e3 => ?_⟩
      refine k_lc (e3 _ _ hacc) hlt (by omega) fun H5 h5 k5 => ⟨Ex.mut (e.trans e3) hD k5, ?_⟩
      rw [List.range_succ, List.map_append, List.map_append]; rfl
    · obtain ⟨e, rfl⟩ := p
      refine r_any hacc ?_
      rw [any_filter]
      exact q1' H' e
abbrev s_kindsof : Stmt := topS 23
theorem sc_kindsof : FnScope ["value", "width", "found", "kind"] ["value", "width"] (defScope s_kindsof) := ⟨rfl, rfl, rfl, by decide +kernel, rfl, by decide +kernel, by decide +kernel⟩
theorem C_kindsof (F : Fn K mg "kinds_of" s_kindsof ["value", "width"]) (Z : Bz mg) (T_InvalidQuestion : PySem.BkErr.ErrTxt P K mg "InvalidQuestion" cIQ fIQ) (gT_KINDS : ∃ pa, (∃ u, mg "KINDS" = some u ∧ RelV (.ref pa) u) ∧ ∀ H, SqT K H pa kindsV) (C4 : CalR P w K mg base 3 "checked_width" ["width", "at"] (spChkWX P K mg)) (COk : Cal P w K mg base 4 "is_of_kind" spOfKind) :
    CalR P w K mg base 5 "kinds_of" ["value", "width"] (spKindsOf P K mg) := by
  have S := sc_kindsof
  obtain ⟨pa, g_KINDS, gp⟩ := gT_KINDS
  refine F.calR S (fun vs H Q E h => ?_) (fun f cdv A' outer s H vs Q E hr h => ?_)
  · obtain ⟨M, v, u, d, e, rfl, _⟩ := h; rfl
  · obtain ⟨M, v, u, d, e, rfl, hv, hn, hu, q1, q2, q3⟩ := h
    refine ⟨_, (pss_cons (ps_expr (pe_cr C4 hr (by omega) (by rfl) (takes_of rfl rfl rfl rfl) (fun _ _ _ _ h => h) (pa_cons (pv 1) (pa_cons pe_int pa_nil))))
      (pss_cons (ps_set (i := 2) S.nd rfl (Or.inl rfl) (pe_callTy (call_tuple_of) (by rfl) Z.tuple (by decide +kernel) (pa_cons (pe_lc (own := [("kind", 3)]) (g := (gName 3)) rfl S.nd (pi_tup (pe_gc (by rfl) g_KINDS)) (blkOk_by (N := ["value", "width", "found", "kind"]) (sc := defScope s_kindsof) (by decide +kernel)) (fun _ _ _ _ _ => (pg_name (i := 3) S.nd rfl (Or.inl rfl))) (fun _ _ _ _ _ => (pts_one (pt_val (pe_c0 COk hr (by omega) (by rfl) (pa_cons (pv 0) (pa_cons (pv 3) (pa_cons (pv 1) pa_nil))))))) (fun _ _ _ _ _ => (pv 3))) pa_nil)))
      (pss_cons (ps_if (pt_cmpR (op_eqD hr.units) (pv 2) (pe_tup pa_nil) (nomark _)) (pss_one (ps_raiseErr rfl T_InvalidQuestion hr (takes_of rfl rfl rfl rfl) (pa_cons pe_int pa_nil))) pss_nil)
      (pss_one (ps_ret (pv 2)))))), ?_⟩
    try dsimp only [cxOf, Cx.nox, Cx.wish]
    walk_at "w"
    refine ⟨M, u, .int 1, e, rfl, hu, fun hw => ?_, fun hw => q2 hw⟩
    have q1' := q1 hw
    have q3' := q3 hw
    have hn2 := hn hw
    obtain ⟨w, rfl, w1, w2⟩ := isWid_int hw
    cases hu
    rw [show widOf (.int (w : Int)) = w by simp [widOf]] at q1' q3'
    walk_at "w"
    refine k_lcT (gp _) (lcT (xs := kindsV) (fun i acc D H' => Ex H H' ∧ acc = ((List.range i).filter fun k => isOfD w k d).map fun k => V.str (kindS k)) (fun D H2 _ e _ => ⟨e, rfl⟩) (fun i acc D H' _ p => gp _) (fun i x acc D H' hx hlt hD hacc p => ?_) (fun acc D H' _ hD hacc p => ?_))
    · obtain ⟨e, rfl⟩ := p
      obtain ⟨hi, rfl⟩ := kind_at hx
      walk_at "w"
      refine ⟨M, v, d, i, w, rfl, hi, w1, w2, hv.ex e, hn2, fun H3 e3 => ?_⟩
      walk_at "w"
      refine if_by (fun h => ?_) (fun h => ?_)
      · walk_at "w"
        refine k_lc (e3 _ _ hacc) hlt (by omega) fun H5 h5 k5 => ⟨Ex.mut (e.trans e3) hD k5, ?_⟩
        rw [filter_snoc, if_pos h, List.map_append]; rfl
      · refine k_lcN (e3 _ _ hacc) hlt ⟨e.trans e3, ?_⟩
        rw [filter_snoc, if_neg (by rw [h]; decide), List.append_nil]
    · obtain ⟨e, rfl⟩ := p
      change H' D = some (.lst ((kindsOfD w d).map fun k => V.str (kindS k))) at hacc
      refine ⟨D, _, rfl, .inl ⟨.of hacc, fun p hp => ?_⟩⟩
      have e2 := Ex.new (o := .tup ((kindsOfD w d).map fun k => V.str (kindS k))) hp
      have h2 : upd H' p (.tup ((kindsOfD w d).map fun k => V.str (kindS k))) p = _ := upd_same
      generalize upd H' p (.tup ((kindsOfD w d).map fun k => V.str (kindS k))) = H2 at e2 h2 ⊢
      have e12 := e.trans e2
      have hdv : Dv [] H2 (.ref p) (.tuple (kindsT (kindsOfD w d))) := .tup h2 (by simp [kindsT]) fun i x y h1 h2 => by
        obtain ⟨k, hk, rfl⟩ := map_some h1
        obtain ⟨k', hk', rfl⟩ := kindsT_at h2
        rw [hk] at hk'; cases hk'; exact .str _
      have hl : (kindsOfD w d).length ≤ 5 := by
        have := List.length_filter_le (fun k => isOfD w k d) (List.range 5)
        simpa [kindsOfD] using this
      walk_at "w"
      rename_i p3 H3 hp3 e3 h3
      have hlay : nice 60 (.tuple (kindsT (kindsOfD w d))) = true := nice.tup (n := 59) (by simp [kindsT]; omega) fun d' hd' => by
        obtain ⟨k, hk, rfl⟩ := List.mem_map.mp hd'
        have h5 : k < 5 := by have := List.mem_filter.mp hk; simpa using this.1
        rcases cases5 h5 with rfl | rfl | rfl | rfl | rfl <;> decide +kernel
      refine r_eqD2 (hdv.ex e3) (dv_nilT h3) hlay (by decide +kernel) ?_
      rw [eqv_nilT]
      walk_at "w"
      refine if_by (fun h => ?_) (fun h => ?_)
      · have h0 : kindsOfD w d = [] := by simpa [kindsT] using h
        refine w_raiseErr ?_
        walk_at "w"
        exact a_err T_InvalidQuestion ((q3' h0).ex (e12.trans e3))
      · have h0 : kindsOfD w d ≠ [] := by intro z; rw [z] at h; cases h
        walk_at "w"
        exact q1' h0 p _ (e12.trans e3) (e3 _ _ h2)
abbrev s_fitkinds : Stmt := topS 25
theorem sc_fitkinds : FnScope ["values", "kinds", "width", "one", "kind"] ["values", "kinds", "width"] (defScope s_fitkinds) := ⟨rfl, rfl, rfl, by decide +kernel, rfl, by decide +kernel, by decide +kernel⟩
theorem C_fitkinds (F : Fn K mg "fit_kinds" s_fitkinds ["values", "kinds", "width"]) (Z : Bz mg) (COk : Cal P w K mg base 4 "is_of_kind" spOfKind) : Cal P w K mg base 5 "fit_kinds" spFitKinds := by
  have S := sc_fitkinds
  refine F.cal S (fun vs H Q E h => ?_) (fun f cdv A' outer s H vs Q E hr h => ?_)
  · obtain ⟨M, v, t, d, ks, w, rfl, _⟩ := h; rfl
  · obtain ⟨M, v, t, d, ks, w, rfl, w1, w2, hv, hn, ht, h5, hl20, q⟩ := h
    refine ⟨_, (pss_cons (ps_if (PW.pt (pw_or (pt_not (pt_val (pe_callB call_isi (by rfl) Z.isinstance (by decide +kernel) (pa_cons (pv 0) (pa_cons (pe_bltn (v := .ty "tuple") (by rfl) Z.tuple (by decide +kernel) rfl) pa_nil))))) (pw_or1 (pt_cmpR op_ne (pe_callB (cr_len) (by rfl) Z.len (by decide +kernel) (pa_cons (pv 0) pa_nil)) (pe_callB (cr_len) (by rfl) Z.len (by decide +kernel) (pa_cons (pv 1) pa_nil)) (nomark _))))) (pss_one (ps_ret pe_bl)) pss_nil)
      (pss_one (ps_ret (pe_callB (cr_all rfl) (by rfl) Z.all (by decide +kernel) (pa_cons (pe_lc (own := [("one", 3), ("kind", 4)]) (g := (gTup K 2 (gCons (gName 3) (gCons (gName 4) gNil)))) (tt := tYes) rfl S.nd (RZ.pi_zipA (by rfl) Z.zip (pa_cons (pv 0) (pa_cons (pv 1) pa_nil))) (blkOk_by (N := ["values", "kinds", "width", "one", "kind"]) (sc := defScope s_fitkinds) (by decide +kernel)) (fun _ _ _ _ _ => (pg_tup rfl (pgs_cons (pg_name (i := 3) S.nd rfl (Or.inl rfl)) (pgs_cons (pg_name (i := 4) S.nd rfl (Or.inl rfl)) pgs_nil)))) (fun _ _ _ _ _ => pts_nil) (fun _ _ _ _ _ => (pe_c0 COk hr (by omega) (by rfl) (pa_cons (pv 3) (pa_cons (pv 4) (pa_cons (pv 2) pa_nil)))))) pa_nil))))), ?_⟩
    try dsimp only [cxOf, Cx.nox, Cx.wish]
    walk_at "w"
    refine r_isiTup hv ?_
    walk_at "w"
    refine if_by (fun h => ?_) (fun h => ?_)
    · have e : isTup d = false := by simpa using h
      walk_at "w"
      have q' := q H (fun _ _ h => h)
      cases d <;> first | (simp [isTup] at e; done) | exact q'
    · obtain ⟨ds, rfl⟩ : ∃ ds, d = .tuple ds := by cases d <;> simp [isTup] at h ⊢
      obtain ⟨a, xs, rfl, ha, hl, hx⟩ := hv.tup_inv
      obtain ⟨b, ys, rfl, hb, hlb, hy⟩ := ht.tup_inv
      walk_at "w"
      refine r_len (.inr (.of ha)) rfl ?_
      walk_at "w"
      refine r_len (.inr (.of hb)) rfl ?_
      walk_at "w"
      have hlk : ys.length = ks.length := by rw [hlb]; simp [kindsT]
      have n1 : ∀ y ∈ ds, nice 60 y = true := fun y hy => nice.mono (nice.tup_in (n := 59) hn hy) (by decide)
      refine if_by (fun h => ?_) (fun h => ?_)
      · have e : ds.length ≠ ks.length := by
          have h' : ((xs.length : Int)) ≠ (ys.length : Int) := by simpa using h
          omega
        walk_at "w"
        have q' := q H (fun _ _ h => h)
        rw [show fitD w ks (.tuple ds) = false by simp [fitD, e]] at q'
        exact q'
      · have e : ds.length = ks.length := by
          have h' : ((xs.length : Int)) = (ys.length : Int) := by simpa using h
          omega
        walk_at "w"
        refine ⟨a, b, xs, ys, rfl, .inr ⟨.of ha, .of hb, ?_⟩⟩
        refine lcZT (by omega) (fun i acc D H' => Ex H H' ∧ acc = (((ds.zip ks).take i).map fun p => isOfD w p.2 p.1).map V.bl)
          (fun D H3 _ e3 _ => ⟨e3, rfl⟩) (fun i acc D H' _ p => ⟨.of (p.1 _ _ ha), .of (p.1 _ _ hb)⟩) (fun i x y acc D H' T H3 hxi hyi hlt hD hacc p e3 hT => ?_) (fun acc D H' _ hD hacc p => ?_)
        · obtain ⟨e4, rfl⟩ := p
          obtain ⟨dx, hdx⟩ := get_of_len hl hxi
          obtain ⟨dy, hdy⟩ := get_of_len hlb hyi
          obtain ⟨k, hk, rfl⟩ := kindsT_at hdy
          have hi : i < 90000 := by have h := (List.getElem?_eq_some_iff.mp hk).1; omega
          have d1 := hy i y _ hyi hdy
          cases d1
          refine w_gtup (.of hT) rfl ?_
          walk_at "w"
          refine ⟨M, x, dx, k, w, rfl, h5 k (List.mem_of_getElem? hk), w1, w2, (hx i x dx hxi hdx).ex (e4.trans e3), n1 dx (List.mem_of_getElem? hdx), fun H6 e6 => ?_⟩
          refine k_lc (e6 _ _ hacc) hlt hi fun H5 h5 k5 => ⟨Ex.mut ((e4.trans e3).trans e6) hD k5, ?_⟩
          rw [zip_take_more hdx hk, List.map_append, List.map_append]; rfl
        · obtain ⟨e4, rfl⟩ := p
          have ez : (ds.zip ks).take xs.length = ds.zip ks := List.take_of_length_le (by rw [List.length_zip]; omega)
          rw [ez] at hacc
          refine r_all hacc ?_
          have q' := q H' e4
          rw [show fitD w ks (.tuple ds) = ((ds.zip ks).map fun p => isOfD w p.2 p.1).all id by simp [fitD, e, List.all_map]] at q'
          exact q'
abbrev s_fit : Stmt := topS 24
theorem sc_fit : FnScope ["values", "kinds", "width"] ["values", "kinds", "width"] (defScope s_fit) := ⟨rfl, rfl, rfl, by decide +kernel, rfl, by decide +kernel, by decide +kernel⟩
theorem C_fit (F : Fn K mg "fit" s_fit ["values", "kinds", "width"]) (Z : Bz mg) (T_InvalidQuestion : PySem.BkErr.ErrTxt P K mg "InvalidQuestion" cIQ fIQ) (CKs : Cal P w K mg base 2 "are_kinds" spKinds) (C4 : CalR P w K mg base 3 "checked_width" ["width", "at"] (spChkWX P K mg)) (CFk : Cal P w K mg base 5 "fit_kinds" spFitKinds) :
    CalR P w K mg base 6 "fit" ["values", "kinds", "width"] (spFit P K mg) := by
  have S := sc_fit
  refine F.calR S (fun vs H Q E h => ?_) (fun f cdv A' outer s H vs Q E hr h => ?_)
  · obtain ⟨M, v, t, u, d, e, f, rfl, _⟩ := h; rfl
  · obtain ⟨M, v, t, u, d, e, g, rfl, hv, hn, ht, hu, q1, q2, q3⟩ := h
    refine ⟨_, (pss_cons (ps_if (pt_not (pt_val (pe_c0 CKs hr (by omega) (by rfl) (pa_cons (pv 1) pa_nil)))) (pss_one (ps_raiseErr rfl T_InvalidQuestion hr (takes_of rfl rfl rfl rfl) (pa_cons pe_int pa_nil))) pss_nil)
      (pss_cons (ps_expr (pe_cr C4 hr (by omega) (by rfl) (takes_of rfl rfl rfl rfl) (fun _ _ _ _ h => h) (pa_cons (pv 2) (pa_cons pe_int pa_nil))))
      (pss_one (ps_ret (pe_c0 CFk hr (by omega) (by rfl) (pa_cons (pv 0) (pa_cons (pv 1) (pa_cons (pv 2) pa_nil)))))))), ?_⟩
    try dsimp only [cxOf, Cx.nox, Cx.wish]
    walk_at "w"
    refine ⟨M, t, e, rfl, ht, fun H1 e1 => ?_⟩
    walk_at "w"
    refine if_by (fun h => ?_) (fun h => ?_)
    · have h0 : areKindsD e = false := by simpa using h
      refine w_raiseErr ?_
      walk_at "w"
      exact a_err T_InvalidQuestion ((q2 h0).ex e1)
    · have h0 : areKindsD e = true := by simpa using h
      obtain ⟨ks, rfl, hl, h5⟩ := areKindsD_inv h0
      walk_at "w"
      refine ⟨M, u, .int 2, g, rfl, hu.ex e1, fun hw => ?_, fun hw => (q3 h0 hw).ex e1⟩
      have q1' := q1 ks rfl h5 hl hw
      obtain ⟨w, rfl, w1, w2⟩ := isWid_int hw
      have hu2 := hu
      cases hu2
      rw [show widOf (.int (w : Int)) = w by simp [widOf]] at q1'
      walk_at "w"
      exact ⟨M, v, t, d, ks, w, rfl, w1, w2, hv.ex e1, hn, ht.ex e1, h5, hl, fun H' e' => q1' H' (e1.trans e')⟩
abbrev s_emptyL : Stmt := topS 26
theorem sc_emptyL : FnScope ["kinds", "nothing", "kind"] ["kinds"] (defScope s_emptyL) := ⟨rfl, rfl, rfl, by decide +kernel, rfl, by decide +kernel, by decide +kernel⟩
abbrev s_emptyT : Stmt := topS 26
theorem sc_emptyT : FnScope ["kinds", "nothing", "kind"] ["kinds"] (defScope s_emptyT) := ⟨rfl, rfl, rfl, by decide +kernel, rfl, by decide +kernel, by decide +kernel⟩
theorem C_empty (F : Fn K mg "empty_of" s_emptyT ["kinds"]) (Z : Bz mg) (T_InvalidQuestion : PySem.BkErr.ErrTxt P K mg "InvalidQuestion" cIQ fIQ) (CSq : Cal P w K mg base 1 "is_sequence" spSeqq) (CKs : Cal P w K mg base 2 "are_kinds" spKinds) : CalR P w K mg base 3 "empty_of" ["kinds"] (spEmpty P K mg) := by
  have S := sc_emptyT
  refine F.calR S (fun vs H Q E h => ?_) (fun f cdv A' outer s H vs Q E hr h => ?_)
  · obtain ⟨M, v, d, rfl, _⟩ := h; rfl
  · obtain ⟨M, v, d, rfl, hv, hlen, q1, q2⟩ := h
    by_cases hT : isTup d = true
    · obtain ⟨ds, rfl⟩ : ∃ ds, d = .tuple ds := by cases d <;> simp [isTup] at hT ⊢
      obtain ⟨a, xs, rfl, ha, hl, hx⟩ := hv.tup_inv
      refine ⟨_, (pss_cons (ps_if (PW.pt (pw_or (pt_not (pt_val (pe_c0 CSq hr (by omega) (by rfl) (pa_cons (pv 0) pa_nil)))) (pw_or1 (pt_not (pt_val (pe_c0 CKs hr (by omega) (by rfl) (pa_cons (pe_callTy (call_tuple_of) (by rfl) Z.tuple (by decide +kernel) (pa_cons (pv 0) pa_nil)) pa_nil))))))) (pss_one (ps_raiseErr rfl T_InvalidQuestion hr (takes_of rfl rfl rfl rfl) (pa_cons pe_int pa_nil))) pss_nil)
      (pss_cons (ps_set (i := 1) S.nd rfl (Or.inr rfl) (pe_disp (pps_cons pe_str pe_int (pps_cons pe_str (pe_tup (pa_cons pe_int pa_nil)) (pps_cons pe_str (pe_tup (pa_cons pe_str (pa_cons (pe_tup pa_nil) pa_nil))) (pps_cons pe_str (pe_tup (pa_cons pe_str (pa_cons (pe_tup pa_nil) pa_nil))) (pps_cons pe_str (pe_tup (pa_cons pe_str (pa_cons (pe_tup pa_nil) pa_nil))) pps_nil))))) (by rfl) rfl (by simp) (by decide)))
      (pss_one (ps_ret (pe_callTy (call_tuple_of) (by rfl) Z.tuple (by decide +kernel) (pa_cons (pe_lc (own := [("kind", 2)]) (g := (gName 2)) (tt := tYes) rfl S.nd (pi_tup (pv 0)) (blkOk_by (N := ["kinds", "nothing", "kind"]) (sc := defScope s_emptyT) (by decide +kernel)) (fun _ _ _ _ _ => (pg_name (i := 2) S.nd rfl (Or.inl rfl))) (fun _ _ _ _ _ => pts_nil) (fun _ _ _ _ _ => (pe_dget (hu_of hr) (pv 1) (pv 2) (fun _ _ => rfl)))) pa_nil)))))), ?_⟩
      try dsimp only [cxOf, Cx.nox, Cx.wish]
      walk_at "w"
      refine ⟨M, _, _, rfl, hv, fun H1 e1 => ?_⟩
      walk_at "w"
      refine if_df (by rfl) ?_
      walk_at "w"
      refine ⟨a, xs, rfl, .inr ⟨.of (e1 _ _ ha), ?_⟩⟩
      walk_at "w"
      refine ⟨M, _, _, rfl, hv.ex e1, fun H2 e2 => ?_⟩
      have e12 := e1.trans e2
      walk_at "w"
      refine if_by (fun h => ?_) (fun h => ?_)
      · have h0 : areKindsD (.tuple ds) = false := by simpa using h
        refine w_raiseErr ?_
        walk_at "w"
        exact a_err T_InvalidQuestion ((q2 h0).ex e12)
      · have h0 : areKindsD (.tuple ds) = true := by simpa using h
        obtain ⟨ks, hks, hl20, h5⟩ := areKindsD_inv h0
        cases hks
        walk_at "w"
        refine w_disp fun pd HD hpd ed hd => ?_
        repeat (first | walk_at "w1" | with_reducible refine w_pair ?_ | with_reducible refine w_pairN ?_)
        rename_i t1 J1 ht1 f1 g1 t2 J2 ht2 f2 g2 t3 J3 ht3 f3 g3 t4 J4 ht4 f4 g4 t5 J5 ht5 f5 g5 t6 J6 ht6 f6 g6 t7 J7 ht7 f7 g7
        have f17 := (((((f1.trans f2).trans f3).trans f4).trans f5).trans f6).trans f7
        have f27 := ((((f2.trans f3).trans f4).trans f5).trans f6).trans f7
        have f37 := (((f3.trans f4).trans f5).trans f6).trans f7
        have f47 := ((f4.trans f5).trans f6).trans f7
        have f57 := (f5.trans f6).trans f7
        have f67 := f6.trans f7
        have v1 : ∀ M, Dv M J7 (.ref t1) (nothingD 1) := fun M => tupOne (f27 _ _ g1)
        have v3 : ∀ M, Dv M J7 (.ref t3) (nothingD 2) := fun M => tupTag (f47 _ _ g3) (f37 _ _ g2)
        have v5 : ∀ M, Dv M J7 (.ref t5) (nothingD 3) := fun M => tupTag (f67 _ _ g5) (f57 _ _ g4)
        have v7 : ∀ M, Dv M J7 (.ref t7) (nothingD 4) := fun M => tupTag g7 (f7 _ _ g6)
        refine k_disp [(.inr "word", .int 0), (.inr "array", .ref t1), (.inr "stack", .ref t3), (.inr "in", .ref t5), (.inr "out", .ref t7)] (f17 _ _ hd) rfl (by simp) fun HE kE hE => ?_
        have eE : Ex H2 HE := Ex.mut (ed.trans f17) hpd kE
        have vE : ∀ {M v d}, Dv M J7 v d → Dv M HE v d := fun hv => hv.keep ⟨fun a xs h => kE _ _ (fun z => by rw [z, f17 _ _ hd] at h; cases h) h, fun a xs h _ => kE _ _ (fun z => by rw [z, f17 _ _ hd] at h; cases h) h⟩
        walk_at "w"
        refine k_lcT (.of ((e12.trans eE) _ _ ha)) (lcT (xs := xs) (fun i acc D' H' => Ex HE H' ∧ acc = (ks.take i).map (noneV t1 t3 t5 t7)) (fun D' H2 _ e _ => ⟨e, rfl⟩) (fun i acc D' H' _ p => .of (((e12.trans eE).trans p.1) _ _ ha)) (fun i x acc D' H' hx' hlt hD hacc p => ?_) (fun acc D' H' _ hD hacc p => ?_))
        · obtain ⟨e, rfl⟩ := p
          obtain ⟨y, hy⟩ := get_of_len hl hx'
          obtain ⟨k, hk, rfl⟩ := kindsT_at hy
          have d1 := hx i x _ hx' hy
          cases d1
          have hi : i < ks.length := (List.getElem?_eq_some_iff.mp hk).1
          walk_at "w"
          refine w_dget ?_
          walk_at "w"
          refine ⟨pd, noneV t1 t3 t5 t7 k, rfl, .inl ⟨_, .inr (kindS k), .inl (e _ _ hE), rfl, ?_⟩, ?_⟩
          · rcases cases5 (h5 k (List.mem_of_getElem? hk)) with rfl | rfl | rfl | rfl | rfl <;> rfl
          refine k_lc hacc hlt (by omega) fun H5 h5 k5 => ⟨e.mut hD k5, ?_⟩
          rw [take_map_more hk]
        · obtain ⟨e, rfl⟩ := p
          have hxl : xs.length = ks.length := by rw [hl]; simp [kindsT]
          rw [hxl, List.take_length] at hacc
          refine ⟨D', _, rfl, .inl ⟨.of hacc, fun p hp => ?_⟩⟩
          have en : Ex H' (upd H' p (.tup (ks.map (noneV t1 t3 t5 t7)))) := Ex.new hp
          refine q1 ks (.inl rfl) h5 hl20 _ _ (((e12.trans eE).trans e).trans en) fun M' => .tup upd_same (by simp) fun i v d h1 h2 => ?_
          obtain ⟨k, hk, rfl⟩ := map_some h1
          obtain ⟨k', hk', rfl⟩ := map_some h2
          rw [hk] at hk'; cases hk'
          have k5 := h5 k (List.mem_of_getElem? hk)
          refine Dv.ex (e.trans en) ?_
          rcases cases5 k5 with rfl | rfl | rfl | rfl | rfl
          · exact .int 0
          · exact vE (v1 M')
          · exact vE (v3 M')
          · exact vE (v5 M')
          · exact vE (v7 M')
    by_cases hL : isLst d = true
    · obtain ⟨ds, rfl⟩ : ∃ ds, d = .list ds := by cases d <;> simp [isLst] at hL ⊢
      obtain ⟨a, xs, rfl, ha, hnM, hl, hx⟩ := hv.lst_inv
      refine ⟨_, (pss_cons (ps_if (PW.pt (pw_or (pt_not (pt_val (pe_c0 CSq hr (by omega) (by rfl) (pa_cons (pv 0) pa_nil)))) (pw_or1 (pt_not (pt_val (pe_c0 CKs hr (by omega) (by rfl) (pa_cons (pe_callTy (call_tuple_of) (by rfl) Z.tuple (by decide +kernel) (pa_cons (pv 0) pa_nil)) pa_nil))))))) (pss_one (ps_raiseErr rfl T_InvalidQuestion hr (takes_of rfl rfl rfl rfl) (pa_cons pe_int pa_nil))) pss_nil)
      (pss_cons (ps_set (i := 1) S.nd rfl (Or.inr rfl) (pe_disp (pps_cons pe_str pe_int (pps_cons pe_str (pe_tup (pa_cons pe_int pa_nil)) (pps_cons pe_str (pe_tup (pa_cons pe_str (pa_cons (pe_tup pa_nil) pa_nil))) (pps_cons pe_str (pe_tup (pa_cons pe_str (pa_cons (pe_tup pa_nil) pa_nil))) (pps_cons pe_str (pe_tup (pa_cons pe_str (pa_cons (pe_tup pa_nil) pa_nil))) pps_nil))))) (by rfl) rfl (by simp) (by decide)))
      (pss_one (ps_ret (pe_callTy (call_tuple_of) (by rfl) Z.tuple (by decide +kernel) (pa_cons (pe_lc (own := [("kind", 2)]) (g := (gName 2)) (tt := tYes) rfl S.nd (pi_list (pv 0)) (blkOk_by (N := ["kinds", "nothing", "kind"]) (sc := defScope s_emptyL) (by decide +kernel)) (fun _ _ _ _ _ => (pg_name (i := 2) S.nd rfl (Or.inl rfl))) (fun _ _ _ _ _ => pts_nil) (fun _ _ _ _ _ => (pe_dget (hu_of hr) (pv 1) (pv 2) (fun _ _ => rfl)))) pa_nil)))))), ?_⟩
      try dsimp only [cxOf, Cx.nox, Cx.wish]
      walk_at "w"
      refine ⟨M, _, _, rfl, hv, fun H1 e1 => ?_⟩
      walk_at "w"
      refine if_df (by rfl) ?_
      walk_at "w"
      refine ⟨a, xs, rfl, .inl ⟨.of (e1 _ _ ha), fun pt hpt => ?_⟩⟩
      have et : Ex H1 (upd H1 pt (.tup xs)) := Ex.new hpt
      have ht : upd H1 pt (.tup xs) pt = _ := upd_same
      generalize upd H1 pt (.tup xs) = HT at et ht ⊢
      walk_at "w"
      refine ⟨M, _, _, rfl, Dv.tup ht hl fun i v d h1 h2 => ((hx i v d h1 h2).ex (e1.trans et)), fun H2 e2 => ?_⟩
      have e12 := (e1.trans et).trans e2
      walk_at "w"
      refine if_by (fun h => ?_) (fun h => ?_)
      · have h0 : areKindsD (.tuple ds) = false := by simpa using h
        refine w_raiseErr ?_
        walk_at "w"
        exact a_err T_InvalidQuestion ((q2 h0).ex e12)
      · have h0 : areKindsD (.tuple ds) = true := by simpa using h
        obtain ⟨ks, hks, hl20, h5⟩ := areKindsD_inv h0
        cases hks
        walk_at "w"
        refine w_disp fun pd HD hpd ed hd => ?_
        repeat (first | walk_at "w1" | with_reducible refine w_pair ?_ | with_reducible refine w_pairN ?_)
        rename_i t1 J1 ht1 f1 g1 t2 J2 ht2 f2 g2 t3 J3 ht3 f3 g3 t4 J4 ht4 f4 g4 t5 J5 ht5 f5 g5 t6 J6 ht6 f6 g6 t7 J7 ht7 f7 g7
        have f17 := (((((f1.trans f2).trans f3).trans f4).trans f5).trans f6).trans f7
        have f27 := ((((f2.trans f3).trans f4).trans f5).trans f6).trans f7
        have f37 := (((f3.trans f4).trans f5).trans f6).trans f7
        have f47 := ((f4.trans f5).trans f6).trans f7
        have f57 := (f5.trans f6).trans f7
        have f67 := f6.trans f7
        have v1 : ∀ M, Dv M J7 (.ref t1) (nothingD 1) := fun M => tupOne (f27 _ _ g1)
        have v3 : ∀ M, Dv M J7 (.ref t3) (nothingD 2) := fun M => tupTag (f47 _ _ g3) (f37 _ _ g2)
        have v5 : ∀ M, Dv M J7 (.ref t5) (nothingD 3) := fun M => tupTag (f67 _ _ g5) (f57 _ _ g4)
        have v7 : ∀ M, Dv M J7 (.ref t7) (nothingD 4) := fun M => tupTag g7 (f7 _ _ g6)
        refine k_disp [(.inr "word", .int 0), (.inr "array", .ref t1), (.inr "stack", .ref t3), (.inr "in", .ref t5), (.inr "out", .ref t7)] (f17 _ _ hd) rfl (by simp) fun HE kE hE => ?_
        have eE : Ex H2 HE := Ex.mut (ed.trans f17) hpd kE
        have vE : ∀ {M v d}, Dv M J7 v d → Dv M HE v d := fun hv => hv.keep ⟨fun a xs h => kE _ _ (fun z => by rw [z, f17 _ _ hd] at h; cases h) h, fun a xs h _ => kE _ _ (fun z => by rw [z, f17 _ _ hd] at h; cases h) h⟩
        walk_at "w"
        refine k_lcL (.of ((e12.trans eE) _ _ ha)) (lcL (xs := xs) (fun i acc D' H' => Ex HE H' ∧ acc = (ks.take i).map (noneV t1 t3 t5 t7)) (fun D' H2 _ e _ => ⟨e, rfl⟩) (fun i acc D' H' _ p => .of (((e12.trans eE).trans p.1) _ _ ha)) (fun i x acc D' H' hx' hlt hD hacc p => ?_) (fun acc D' H' _ hD hacc p => ?_))
        · obtain ⟨e, rfl⟩ := p
          obtain ⟨y, hy⟩ := get_of_len hl hx'
          obtain ⟨k, hk, rfl⟩ := kindsT_at hy
          have d1 := hx i x _ hx' hy
          cases d1
          have hi : i < ks.length := (List.getElem?_eq_some_iff.mp hk).1
          walk_at "w"
          refine w_dget ?_
          walk_at "w"
          refine ⟨pd, noneV t1 t3 t5 t7 k, rfl, .inl ⟨_, .inr (kindS k), .inl (e _ _ hE), rfl, ?_⟩, ?_⟩
          · rcases cases5 (h5 k (List.mem_of_getElem? hk)) with rfl | rfl | rfl | rfl | rfl <;> rfl
          refine k_lc hacc hlt (by omega) fun H5 h5 k5 => ⟨e.mut hD k5, ?_⟩
          rw [take_map_more hk]
        · obtain ⟨e, rfl⟩ := p
          have hxl : xs.length = ks.length := by rw [hl]; simp [kindsT]
          rw [hxl, List.take_length] at hacc
          refine ⟨D', _, rfl, .inl ⟨.of hacc, fun p hp => ?_⟩⟩
          have en : Ex H' (upd H' p (.tup (ks.map (noneV t1 t3 t5 t7)))) := Ex.new hp
          refine q1 ks (.inr rfl) h5 hl20 _ _ (((e12.trans eE).trans e).trans en) fun M' => .tup upd_same (by simp) fun i v d h1 h2 => ?_
          obtain ⟨k, hk, rfl⟩ := map_some h1
          obtain ⟨k', hk', rfl⟩ := map_some h2
          rw [hk] at hk'; cases hk'
          have k5 := h5 k (List.mem_of_getElem? hk)
          refine Dv.ex (e.trans en) ?_
          rcases cases5 k5 with rfl | rfl | rfl | rfl | rfl
          · exact .int 0
          · exact vE (v1 M')
          · exact vE (v3 M')
          · exact vE (v5 M')
          · exact vE (v7 M')
    · refine ⟨_, (pss_cons (ps_if (PW.pt (pw_or (pt_not (pt_val (pe_c0 CSq hr (by omega) (by rfl) (pa_cons (pv 0) pa_nil)))) (pw_or1 (pt_not (pt_val (pe_c0 CKs hr (by omega) (by rfl) (pa_cons (pe_callTy (call_tuple_of) (by rfl) Z.tuple (by decide +kernel) (pa_cons (pv 0) pa_nil)) pa_nil))))))) (pss_one (ps_raiseErr rfl T_InvalidQuestion hr (takes_of rfl rfl rfl rfl) (pa_cons pe_int pa_nil))) pss_nil)
      (pss_cons (ps_set (i := 1) S.nd rfl (Or.inr rfl) (pe_disp (pps_cons pe_str pe_int (pps_cons pe_str (pe_tup (pa_cons pe_int pa_nil)) (pps_cons pe_str (pe_tup (pa_cons pe_str (pa_cons (pe_tup pa_nil) pa_nil))) (pps_cons pe_str (pe_tup (pa_cons pe_str (pa_cons (pe_tup pa_nil) pa_nil))) (pps_cons pe_str (pe_tup (pa_cons pe_str (pa_cons (pe_tup pa_nil) pa_nil))) pps_nil))))) (by rfl) rfl (by simp) (by decide)))
      (pss_one (ps_ret (pe_callTy (call_tuple_of) (by rfl) Z.tuple (by decide +kernel) (pa_cons (pe_lc (own := [("kind", 2)]) (g := (gName 2)) (tt := tYes) rfl S.nd (pi_tup (pv 0)) (blkOk_by (N := ["kinds", "nothing", "kind"]) (sc := defScope s_emptyT) (by decide +kernel)) (fun _ _ _ _ _ => (pg_name (i := 2) S.nd rfl (Or.inl rfl))) (fun _ _ _ _ _ => pts_nil) (fun _ _ _ _ _ => (pe_dget (hu_of hr) (pv 1) (pv 2) (fun _ _ => rfl)))) pa_nil)))))), ?_⟩
      try dsimp only [cxOf, Cx.nox, Cx.wish]
      walk_at "w"
      refine ⟨M, _, _, rfl, hv, fun H1 e1 => ?_⟩
      have e0 : (isTup d || isLst d) = false := by simp [hT, hL]
      rw [e0]
      walk_at "w"
      refine if_dt (by rfl) ?_
      walk_at "w"
      refine w_raiseErr ?_
      walk_at "w"
      exact a_err T_InvalidQuestion ((q2 (by cases d <;> simp [isTup, isLst, seqKinds] at hT hL ⊢)).ex e1)
end
end BkL
namespace BkL
open PySem PySem.Spec L2 BkG
local macro_rules | `(tactic| walk_at "w1") => `(tactic| first
  | with_reducible refine w_seq ?_ | with_reducible refine w_set ?_ | with_reducible refine w_ret ?_ | with_reducible refine w_drop ?_ | with_reducible refine w_ifS ?_
  | with_reducible refine w_next ?_ | with_reducible refine w_c ?_ | ((with_reducible refine' w_var ?hv ?_); (case hv => rfl)) | with_reducible refine w_op ?_ | with_reducible refine w_cons ?_ | with_reducible refine w_nil ?_
  | with_reducible refine w_cb ?_ | with_reducible refine w_call ?_ | with_reducible refine w_tup ?_ | with_reducible refine w_lst ?_ | with_reducible refine w_bm ?_ | with_reducible refine w_bm0 ?_ | with_reducible refine w_un ?_
  | with_reducible refine w_test ?_ | with_reducible refine w_B ?_ | with_reducible refine k_B ?_ | with_reducible refine w_and ?_ | with_reducible refine w_or ?_ | with_reducible refine w_not ?_ | with_reducible refine w_if ?_
  | with_reducible refine w_andV ?_ | with_reducible refine w_orV ?_ | with_reducible refine w_notV ?_ | with_reducible refine k_andV ?_ | with_reducible refine k_orV ?_ | with_reducible refine k_notV ?_
  | with_reducible refine w_chain ?_ | with_reducible refine ex_bl ?_ | with_reducible refine w_isN ?_ | with_reducible refine w_notN ?_ | with_reducible refine w_yes ?_
  | with_reducible refine r_I0 ?_ | with_reducible refine r_U ?_ | with_reducible refine r_eqI ?_ | with_reducible refine r_neI ?_ | with_reducible refine r_eqS ?_ | with_reducible refine r_neS ?_ | with_reducible refine r_eqB ?_ | with_reducible refine r_neB ?_
  | with_reducible refine r_abs ?_ | with_reducible refine r_int ?_ | with_reducible refine r_intB ?_
  | with_reducible refine w_sl ?_ | with_reducible refine w_nop ?_ | with_reducible refine w_part ?_ | with_reducible refine k_part ?_ | with_reducible refine w_revL ?_
  | with_reducible refine w_asg ?_ | with_reducible refine w_gname ?_ | with_reducible refine w_gsub ?_ | with_reducible refine w_gnil ?_ | with_reducible refine w_gcons ?_ | with_reducible refine w_retN ?_ | with_reducible refine w_brk ?_ | with_reducible refine w_cont ?_
  | with_reducible refine w_par ?_ | with_reducible refine w_par3 ?_ | with_reducible refine par_ok ?_ | with_reducible refine par_ok3 ?_ | ((with_reducible refine' w_aug ?hv ?_); (case hv => rfl)) | with_reducible refine i_I ?_
  | with_reducible refine w_forL ?_ | with_reducible refine w_forT ?_ | with_reducible refine w_forR1 ?_ | with_reducible refine w_forE ?_ | with_reducible refine w_lcL ?_ | with_reducible refine w_lcT ?_ | with_reducible refine w_lcR ?_
  | ((with_reducible refine a_tup ?hz ?_); (case hz => exact Nat.le_of_ble_eq_true rfl); intro _ _ _ _ _) | ((with_reducible refine a_lst ?hz ?_); (case hz => exact Nat.le_of_ble_eq_true rfl); intro _ _ _ _ _)
  | ((with_reducible refine k_turn1 ?hw ?_); (case hw => rfl)) | ((with_reducible refine k_turn ?hw ?_); (case hw => rfl)) | with_reducible refine r_isV ?_ | with_reducible refine r_isNotV ?_ | with_reducible refine r_isN ?_ | with_reducible refine r_notN ?_ | with_reducible refine w_lcZ ?_
  | ((with_reducible refine r_I ?hc ?_); (case hc => first | decide | assumption))
  | with_reducible refine w_forET ?_
  | ((with_reducible refine w_dnewK ?_); intro _ _ _ _ _) | with_reducible refine w_dput ?_ | with_reducible refine w_lstRg ?_ | with_reducible refine w_lstZip ?_ | with_reducible refine w_callK ?_
  | (with_reducible refine if_pos' ?_) | (with_reducible refine if_neg' ?_))
local macro_rules | `(tactic| walk_at "w") => `(tactic| repeat (walk_at "w1"))

section
variable {P : Program} {w : World} {K : PySem.W.Frag} {mg : Str → Option Value} {base : Heap}
abbrev s_of : Stmt := topS 30
theorem sc_of : FnScope ["deal", "some"] ["deal", "some"] (defScope s_of) := ⟨rfl, rfl, rfl, by decide +kernel, rfl, by decide +kernel, by decide +kernel⟩
theorem C_of (F : Fn K mg "_law_of" s_of ["deal", "some"]) (Z : Bz mg) (A : Cal P w K mg base 1 "_law_any" spAny) : Cal P w K mg base 2 "_law_of" spOf := by
  have S := sc_of
  refine F.cal S (fun vs H Q E h => ?_) (fun f cdv A' outer s H vs Q E hr h => ?_)
  · obtain ⟨D, L, p, xs, rfl, _⟩ := h; rfl
  · obtain ⟨D, L, p, xs, rfl, hd, hp, n1, n2, hl, hm, q⟩ := h
    refine ⟨_, (pss_one (ps_ret (pe_ix ix_list (pv 1) (pe_c0 A hr (by omega) (by rfl) (pa_cons (pv 0) (pa_cons (pe_callB (cr_len) (by rfl) Z.len (by decide +kernel) (pa_cons (pv 1) pa_nil)) pa_nil))) (fun _ _ => rfl)))), ?_⟩
    try dsimp only [cxOf, Cx.nox, Cx.wish]
    walk_at "w"
    refine r_len (.inl (.of hp)) rfl ?_
    walk_at "w"
    refine ⟨D, L, _, rfl, hd, by omega, small4000 (by omega), fun z H' z0 z1 d' k => ?_⟩
    obtain ⟨x, e, e'⟩ := atI_of (xs := xs) z0 z1
    refine r_ixL (.of (k.at hp (by simp [n1, n2]))) e ?_
    exact q _ _ _ e' d' k
abbrev s_draw : Stmt := topS 28
theorem sc_draw : FnScope ["script", "salt", "cells", "cell", "blend"] ["script", "salt"] (defScope s_draw) := ⟨rfl, rfl, rfl, by decide +kernel, rfl, by decide +kernel, by decide +kernel⟩
theorem C_draw (F : Fn K mg "_law_draw" s_draw ["script", "salt"]) (Z : Bz mg) : Cal P w K mg base 1 "_law_draw" (spDraw K) := by
  have S := sc_draw
  refine F.cal S (fun vs H Q E h => ?_) (fun f cdv A' outer s H vs Q E hr h => ?_)
  · obtain ⟨a, ns, salt, rfl, _⟩ := h; rfl
  · obtain ⟨a, ns, salt, rfl, ha, hl, hs0, hs1, q⟩ := h
    refine ⟨_, (pss_cons (ps_setLc (i := 2) (own := [("cell", 3)]) (g := (gName 3)) (tt := tYes) rfl S.nd rfl rfl (sw_true rfl rfl rfl (by decide +kernel)) (pi_list (pe_slice sl_list (pv 0) po_none (po_some pe_int))) (blkOk_by (N := ["script", "salt", "cells", "cell", "blend"]) (sc := defScope s_draw) (by decide +kernel)) (fun _ _ _ _ _ => (pg_name (i := 3) S.nd rfl (Or.inl rfl))) (fun _ _ _ _ _ => pts_nil) (fun _ _ _ _ _ => (pe_callB (cr_abs) (by rfl) Z.abs (by decide +kernel) (pa_cons (pe_callTy (cr_int) (by rfl) Z.int (by decide +kernel) (pa_cons (pv 3) pa_nil)) pa_nil))))
      (pss_cons (ps_set (i := 4) S.nd rfl (Or.inl rfl) (pe_op op_add pe_int (pe_op op_mulW pe_int (pv 1))))
      (pss_cons (ps_for PassesOwn.never rfl (pi_list (pv 2)) (pg_name (i := 3) S.nd rfl (Or.inl rfl)) (pss_one (ps_set (i := 4) S.nd rfl (Or.inl rfl) (pe_op op_mod (pe_callTy (cr_int) (by rfl) Z.int (by decide +kernel) (pa_cons (pe_op op_add (pe_op op_add (pe_op op_mulW (pv 4) pe_int) (pe_op op_mod (pv 3) pe_int)) pe_int) pa_nil)) pe_int))))
      (pss_one (ps_ret (pe_lst (pa_cons (pe_revL (pe_lc (own := [("cell", 3)]) (g := (gName 3)) rfl S.nd (pi_list (pv 2)) (blkOk_by (N := ["script", "salt", "cells", "cell", "blend"]) (sc := defScope s_draw) (by decide +kernel)) (fun _ _ _ _ _ => (pg_name (i := 3) S.nd rfl (Or.inl rfl))) (fun _ _ _ _ _ => (pts_one (pt_cmpR op_ge (pv 3) (pe_op op_pow pe_int pe_int) (nomark _)))) (fun _ _ _ _ _ => (pv 3)))) (pa_cons (pv 4) pa_nil)))))))), ?_⟩
    try dsimp only [cxOf, Cx.nox, Cx.wish]
    walk_at "w"
    refine r_slL ha fun l H1 hl1 e1 hl2 => ?_
    rw [show ((48 : Int)) = ((48 : Nat) : Int) from rfl, cut_to, ← List.map_take] at hl2
    obtain ⟨cs, hcs⟩ : ∃ cs : List Int, cs = (ns.take 48).map fun z => (z.natAbs : Int) := ⟨_, rfl⟩
    have hcl : cs.length ≤ 48 := by rw [hcs, List.length_map, List.length_take]; omega
    have hc0 : ∀ z ∈ cs, 0 ≤ z := fun z hz => by
      rw [hcs] at hz
      obtain ⟨y, _, e⟩ := List.mem_map.mp hz
      omega
    have hlen : ((ns.take 48).map V.int).length = cs.length := by rw [hcs, List.length_map, List.length_map]
    refine k_lcL (.of hl2) (lcL (xs := (ns.take 48).map V.int) (fun i acc D H' => Ex H1 H' ∧ acc = (cs.take i).map V.int) (fun D H2 _ e _ => ⟨e, rfl⟩) (fun i acc D H' _ p => p.1.sqL (.of hl2)) (fun i x acc D H' hx hlt hD hacc p => ?_) (fun acc D H' _ hD hacc p => ?_))
    · obtain ⟨e, rfl⟩ := p
      obtain ⟨z, hz, rfl⟩ := map_some hx
      have hi : i < 48 := by
        have h := (List.getElem?_eq_some_iff.mp hz).1
        rw [List.length_take] at h
        omega
      walk_at "w"
      refine k_lc hacc hlt (by omega) fun H5 h5 k5 => ⟨e.mut hD k5, ?_⟩
      have hz' : cs[i]? = some (z.natAbs : Int) := by rw [hcs, List.getElem?_map, hz]; rfl
      rw [take_more hz', List.map_append]; rfl
    · obtain ⟨e, rfl⟩ := p
      rw [hlen, List.take_length] at hacc
      have eH : Ex H H' := e1.trans e
      walk_at "w"
      refine r_I (wide_mul (a := 20) (b := 20) (by decide) (by omega) (by decide) (by decide) (by decide)) ?_
      walk_at "w"
      refine k_forL (.of hacc) (fun i σ' H2 => H2 = H' ∧ ∃ b z3, σ' = [some (.ref a), some (.int salt), some (.ref D), z3, some (.int b)] ∧ 0 ≤ b ∧ b < 2147483647) ⟨rfl, _, none, rfl, by omega, by omega⟩ (fun i σ' H2 _ p => by rw [p.1]; exact .of hacc) (fun i x σ' H2 hx p => ?_) (fun σ' H2 p => ?_)
      · obtain ⟨rfl, b, z3, rfl, b0, b1⟩ := p
        obtain ⟨z, hz, rfl⟩ := map_some hx
        walk_at "w"
        refine r_I (wide_mul (a := 40) (b := 40) (by omega) (by decide) (by decide) (by decide) (by decide)) ?_
        walk_at "w"
        exact ⟨rfl, _, _, rfl, Int.emod_nonneg _ (by decide), Int.emod_lt_of_pos _ (by decide)⟩
      · obtain ⟨rfl, b, z3, rfl, b0, b1⟩ := p
        walk_at "w"
        refine k_lcL (.of hacc) (lcL (xs := cs.map V.int) (fun i acc D2 H3 => Ex H2 H3 ∧ ∃ st : List Int, acc = st.map V.int ∧ ∀ z ∈ st, 0 ≤ z) (fun D2 H3 _ e _ => ⟨e, [], rfl, by simp⟩) (fun i acc D2 H3 _ p => p.1.sqL (.of hacc)) (fun i x acc D2 H3 hx hlt hD2 hacc2 p => ?_) (fun acc D2 H3 hz hD2 hacc2 p => ?_))
        · obtain ⟨e3, st, rfl, hst⟩ := p
          obtain ⟨z, hz, rfl⟩ := map_some hx
          have hi : i < 48 := by have h := (List.getElem?_eq_some_iff.mp hz).1; omega
          walk_at "w"
          refine r_I ⟨by decide, by decide, by decide⟩ ?_
          walk_at "w"
          refine if_by (fun _ => ?_) (fun _ => ?_)
          · walk_at "w"
            refine k_lc hacc2 hlt (by omega) fun H5 h5 k5 => ⟨e3.mut hD2 k5, st ++ [z], by simp, fun y hy => ?_⟩
            rcases List.mem_append.mp hy with h | h
            · exact hst y h
            · rw [List.mem_singleton.mp h]; exact hc0 z (List.mem_of_getElem? hz)
          · exact k_lcN hacc2 hlt ⟨e3, st, rfl, hst⟩
        · obtain ⟨e3, st, rfl, hst⟩ := p
          refine k_revL (.of hacc2) fun l2 H4 hl4 e4 h4 => ?_
          walk_at "w"
          rename_i D5 H5 hD5 e5 h5
          refine q D5 l2 H5 (((eH.trans e3).trans e4).trans e5) ⟨st.reverse, b, ⟨h5, ?_, ?_, fun z hz => hst z (List.mem_reverse.mp hz), b0, b1⟩⟩
          · rw [List.map_reverse]; exact e5 _ _ h4
          · rw [List.length_map] at hz
            rw [List.length_reverse]
            rw [List.length_map] at hz
            omega
end
end BkL
namespace BkL
open PySem PySem.Spec L2 BkG
local macro_rules | `(tactic| walk_at "w1") => `(tactic| first
  | with_reducible refine w_seq ?_ | with_reducible refine w_set ?_ | with_reducible refine w_ret ?_ | with_reducible refine w_drop ?_ | with_reducible refine w_ifS ?_
  | with_reducible refine w_next ?_ | with_reducible refine w_c ?_ | ((with_reducible refine' w_var ?hv ?_); (case hv => rfl)) | with_reducible refine w_op ?_ | with_reducible refine w_cons ?_ | with_reducible refine w_nil ?_
  | with_reducible refine w_cb ?_ | with_reducible refine w_call ?_ | with_reducible refine w_tup ?_ | with_reducible refine w_lst ?_ | with_reducible refine w_bm ?_ | with_reducible refine w_bm0 ?_ | with_reducible refine w_un ?_
  | with_reducible refine w_test ?_ | with_reducible refine w_B ?_ | with_reducible refine k_B ?_ | with_reducible refine w_and ?_ | with_reducible refine w_or ?_ | with_reducible refine w_not ?_ | with_reducible refine w_if ?_
  | with_reducible refine w_andV ?_ | with_reducible refine w_orV ?_ | with_reducible refine w_notV ?_ | with_reducible refine k_andV ?_ | with_reducible refine k_orV ?_ | with_reducible refine k_notV ?_
  | with_reducible refine w_chain ?_ | with_reducible refine ex_bl ?_ | with_reducible refine w_isN ?_ | with_reducible refine w_notN ?_ | with_reducible refine w_yes ?_
  | with_reducible refine r_I0 ?_ | with_reducible refine r_U ?_ | with_reducible refine r_eqI ?_ | with_reducible refine r_neI ?_ | with_reducible refine r_eqS ?_ | with_reducible refine r_neS ?_ | with_reducible refine r_eqB ?_ | with_reducible refine r_neB ?_
  | with_reducible refine r_abs ?_ | with_reducible refine r_int ?_ | with_reducible refine r_intB ?_
  | with_reducible refine w_sl ?_ | with_reducible refine w_nop ?_ | with_reducible refine w_part ?_ | with_reducible refine k_part ?_ | with_reducible refine w_revL ?_
  | with_reducible refine w_asg ?_ | with_reducible refine w_gname ?_ | with_reducible refine w_gsub ?_ | with_reducible refine w_gnil ?_ | with_reducible refine w_gcons ?_ | with_reducible refine w_retN ?_ | with_reducible refine w_brk ?_ | with_reducible refine w_cont ?_
  | with_reducible refine w_par ?_ | with_reducible refine w_par3 ?_ | with_reducible refine par_ok ?_ | with_reducible refine par_ok3 ?_ | ((with_reducible refine' w_aug ?hv ?_); (case hv => rfl)) | with_reducible refine i_I ?_
  | with_reducible refine w_forL ?_ | with_reducible refine w_forT ?_ | with_reducible refine w_forR1 ?_ | with_reducible refine w_forE ?_ | with_reducible refine w_lcL ?_ | with_reducible refine w_lcT ?_ | with_reducible refine w_lcR ?_
  | ((with_reducible refine a_tup ?hz ?_); (case hz => exact Nat.le_of_ble_eq_true rfl); intro _ _ _ _ _) | ((with_reducible refine a_lst ?hz ?_); (case hz => exact Nat.le_of_ble_eq_true rfl); intro _ _ _ _ _)
  | ((with_reducible refine k_turn1 ?hw ?_); (case hw => rfl)) | ((with_reducible refine k_turn ?hw ?_); (case hw => rfl)) | with_reducible refine r_isV ?_ | with_reducible refine r_isNotV ?_ | with_reducible refine r_isN ?_ | with_reducible refine r_notN ?_ | with_reducible refine w_lcZ ?_
  | ((with_reducible refine r_I ?hc ?_); (case hc => first | decide | assumption))
  | with_reducible refine w_forET ?_
  | ((with_reducible refine w_dnewK ?_); intro _ _ _ _ _) | with_reducible refine w_dput ?_ | with_reducible refine w_lstRg ?_ | with_reducible refine w_lstZip ?_ | with_reducible refine w_callK ?_
  | (with_reducible refine if_pos' ?_) | (with_reducible refine if_neg' ?_))
local macro_rules | `(tactic| walk_at "w") => `(tactic| repeat (walk_at "w1"))

section
variable {P : Program} {w : World} {K : PySem.W.Frag} {mg : Str → Option Value} {base : Heap}
abbrev s_same : Stmt := topS 31
theorem sc_same : FnScope ["value", "due", "one", "other"] ["value", "due"] (defScope s_same) := ⟨rfl, rfl, rfl, by decide +kernel, rfl, by decide +kernel, by decide +kernel⟩
theorem C_same (F : Fn K mg "_law_same" s_same ["value", "due"]) (Z : Bz mg) (n : Nat) : Cal P w K mg base (n + 1) "_law_same" (spSame n) := by
  induction n with
  | zero => exact F.cal sc_same (fun vs H Q E h => h.elim) (fun f cdv A' outer s H vs Q E hr h => h.elim)
  | succ n ih =>
  have S := sc_same
  refine F.cal S (fun vs H Q E h => ?_) (fun f cdv A' outer s H vs Q E hr h => ?_)
  · obtain ⟨M, v, u, d, e, rfl, _⟩ := h; rfl
  · obtain ⟨M, v, u, d, e, rfl, hv, hu, ok, q⟩ := h
    refine ⟨_, (pss_cons (ps_if (pt_val (pe_callB call_isiT (by rfl) Z.isinstance (by decide +kernel) (pa_cons (pv 1) (pa_cons (pe_tup (pa_cons (pe_bltn (v := .ty "tuple") (by rfl) Z.tuple (by decide +kernel) rfl) (pa_cons (pe_bltn (v := .ty "list") (by rfl) Z.list (by decide +kernel) rfl) pa_nil))) pa_nil)))) (pss_cons (ps_if (PW.pt (pw_or (pt_cmpR op_ne (pe_callB call_isi (by rfl) Z.isinstance (by decide +kernel) (pa_cons (pv 1) (pa_cons (pe_bltn (v := .ty "tuple") (by rfl) Z.tuple (by decide +kernel) rfl) pa_nil))) (pe_callB call_isi (by rfl) Z.isinstance (by decide +kernel) (pa_cons (pv 0) (pa_cons (pe_bltn (v := .ty "tuple") (by rfl) Z.tuple (by decide +kernel) rfl) pa_nil))) (nomark _)) (pw_or (pt_not (pt_val (pe_callB call_isiT (by rfl) Z.isinstance (by decide +kernel) (pa_cons (pv 0) (pa_cons (pe_tup (pa_cons (pe_bltn (v := .ty "tuple") (by rfl) Z.tuple (by decide +kernel) rfl) (pa_cons (pe_bltn (v := .ty "list") (by rfl) Z.list (by decide +kernel) rfl) pa_nil))) pa_nil))))) (pw_or1 (pt_cmpR op_ne (pe_callB (cr_len) (by rfl) Z.len (by decide +kernel) (pa_cons (pv 0) pa_nil)) (pe_callB (cr_len) (by rfl) Z.len (by decide +kernel) (pa_cons (pv 1) pa_nil)) (nomark _)))))) (pss_one (ps_ret pe_bl)) pss_nil)
      (pss_one (ps_ret (pe_cmpR (op_eqD hr.units) (pe_lc (own := [("one", 2), ("other", 3)]) (g := (gTup K 2 (gCons (gName 2) (gCons (gName 3) gNil)))) rfl S.nd (RZ.pi_zipA (by rfl) Z.zip (pa_cons (pv 0) (pa_cons (pv 1) pa_nil))) (blkOk_by (N := ["value", "due", "one", "other"]) (sc := defScope s_same) (by decide +kernel)) (fun _ _ _ _ _ => (pg_tup rfl (pgs_cons (pg_name (i := 2) S.nd rfl (Or.inl rfl)) (pgs_cons (pg_name (i := 3) S.nd rfl (Or.inl rfl)) pgs_nil)))) (fun _ _ _ _ _ => (pts_one (pt_not (pt_val (pe_c0 ih hr (by omega) (by rfl) (pa_cons (pv 2) (pa_cons (pv 3) pa_nil))))))) (fun _ _ _ _ _ => pe_int)) (pe_lst pa_nil) (nomark _))))) pss_nil)
      (pss_cons (ps_if (pt_cmpR op_isN1 (pv 1) pe_non (nomark _)) (pss_one (ps_ret (pe_cmpR op_isN1 (pv 0) pe_non (nomark _)))) pss_nil)
      (pss_cons (ps_if (pt_cmpR op_isV (pv 1) pe_bl (nomark _)) (pss_one (ps_ret (pe_cmpR op_isV (pv 0) pe_bl (nomark _)))) pss_nil)
      (pss_cons (ps_if (pt_cmpR op_isV (pv 1) pe_bl (nomark _)) (pss_one (ps_ret (pe_cmpR op_isV (pv 0) pe_bl (nomark _)))) pss_nil)
      (pss_cons (ps_if (pt_val (pe_callB call_isi (by rfl) Z.isinstance (by decide +kernel) (pa_cons (pv 1) (pa_cons (pe_bltn (v := .ty "int") (by rfl) Z.int (by decide +kernel) rfl) pa_nil)))) (pss_one (ps_ret (pe_and (pe_callB call_isi (by rfl) Z.isinstance (by decide +kernel) (pa_cons (pv 0) (pa_cons (pe_bltn (v := .ty "int") (by rfl) Z.int (by decide +kernel) rfl) pa_nil))) (pe_and (pe_not (pe_callB call_isi (by rfl) Z.isinstance (by decide +kernel) (pa_cons (pv 0) (pa_cons (pe_bltn (v := .ty "bool") (by rfl) Z.bool (by decide +kernel) rfl) pa_nil)))) (pe_one (pe_cmpR op_eq (pv 0) (pv 1) (nomark _))))))) pss_nil)
      (pss_one (ps_ret (pe_and (pe_callB call_isi (by rfl) Z.isinstance (by decide +kernel) (pa_cons (pv 0) (pa_cons (pe_bltn (v := .ty "str") (by rfl) Z.str (by decide +kernel) rfl) pa_nil))) (pe_one (pe_cmpR op_eq (pv 0) (pv 1) (nomark _))))))))))), ?_⟩
    try dsimp only [cxOf, Cx.nox, Cx.wish]
    walk_at "w"
    rename_i p H1 hp e1 hp1
    refine r_isiTL hp1 (hu.ex e1) ?_
    walk_at "w"
    refine if_by (fun hs => ?_) (fun hs => ?_)
    · walk_at "w"
      refine r_isiTup (hu.ex e1) ?_
      walk_at "w"
      refine r_isiTup (hv.ex e1) ?_
      walk_at "w"
      refine if_by (fun hne => ?_) (fun heq => ?_)
      · walk_at "w"
        have h3 : isTup e ≠ isTup d := by simpa using hne
        have q' := q H1 e1
        rw [same_no hs (.inl h3)] at q'
        exact q'
      · have h3 : isTup e = isTup d := by simpa using heq
        walk_at "w"
        rename_i p2 H2 hp2 e2 hp2'
        refine r_isiTL hp2' ((hv.ex e1).ex e2) ?_
        walk_at "w"
        have e12 := e1.trans e2
        refine if_by (fun hns => ?_) (fun hsq => ?_)
        · walk_at "w"
          have h4 : (isTup d || isLst d) = false := by simpa using hns
          have q' := q H2 e12
          rw [same_no hs (.inr h4)] at q'
          exact q'
        · have h4 : (isTup d || isLst d) = true := by cases hh : (isTup d || isLst d) with
            | true => rfl
            | false => rw [hh] at hsq; cases hsq
          walk_at "w"
          rcases same_seq h4 hs h3 with ⟨ds, es, rfl, rfl⟩ | ⟨ds, es, rfl, rfl⟩
          · obtain ⟨a, xs, rfl, ha, la, ta⟩ := hv.tup_inv
            obtain ⟨b, ys, rfl, hb, lb, tb⟩ := hu.tup_inv
            refine r_len (.inr (.of (e12 _ _ ha))) rfl ?_
            walk_at "w"
            refine r_len (.inr (.of (e12 _ _ hb))) rfl ?_
            walk_at "w"
            cases n with
            | zero => simp [okD] at ok
            | succ n =>
            simp only [okD, Bool.and_eq_true, decide_eq_true_eq, List.all_eq_true] at ok
            refine if_by (fun hl => ?_) (fun hl => ?_)
            · walk_at "w"
              have hl' : ds.length ≠ es.length := by intro z; apply absurd hl; simp; omega
              have q' := q H2 e12
              rw [show smD (.tuple ds) (.tuple es) = smAll ds es by simp [smD], smAll_len hl'] at q'
              exact q'
            · have hl' : ds.length = es.length := by
                have hl2 : ((xs.length : Int) = (ys.length : Int)) := by simpa using hl
                omega
              walk_at "w"
              refine ⟨a, b, xs, ys, rfl, .inr ⟨.of (e12 _ _ ha), .of (e12 _ _ hb), ?_⟩⟩
              refine lcZT (by omega) (fun i acc D H' => Ex H2 H' ∧ ∃ zs : List Int, acc = zs.map V.int ∧ (zs = [] ↔ ∀ (j : Nat) (x y : PyData), j < i → ds[j]? = some x → es[j]? = some y → smD x y = true))
                (fun D H3 _ e3 _ => ⟨e3, [], rfl, by simp⟩) (fun i acc D H' _ p => ⟨.of (p.1 _ _ (e12 _ _ ha)), .of (p.1 _ _ (e12 _ _ hb))⟩) (fun i x y acc D H' T H3 hx hy hlt hD hacc p e3 hT => ?_) (fun acc D H' _ hD hacc p => ?_)
              · obtain ⟨e4, zs, rfl, hz⟩ := p
                obtain ⟨dx, hdx⟩ := get_of_len la hx
                obtain ⟨dy, hdy⟩ := get_of_len lb hy
                have hi : i < 90000 := by have h := (List.getElem?_eq_some_iff.mp hx).1; omega
                have e23 := (e12.trans e4).trans e3
                refine w_gtup (.of hT) rfl ?_
                walk_at "w"
                refine ⟨M, x, y, dx, dy, rfl, (ta i x dx hx hdx).ex e23, (tb i y dy hy hdy).ex e23, ok.2 dx (List.mem_of_getElem? hdx), fun H4 e4' => ?_⟩
                walk_at "w"
                refine if_by (fun hu' => ?_) (fun hu' => ?_)
                · have hsame : smD dx dy = false := by simpa using hu'
                  walk_at "w"
                  refine k_lc (e4' _ _ hacc) hlt hi fun H5 h5 k5 => ⟨Ex.mut ((e4.trans e3).trans e4') hD k5, zs ++ [0], by simp, ?_⟩
                  constructor
                  · intro z; simp at z
                  · intro g
                    have := g i dx dy (Nat.lt_succ_self i) hdx hdy
                    rw [hsame] at this; cases this
                · have hsame : smD dx dy = true := by simpa using hu'
                  refine k_lcN (e4' _ _ hacc) hlt ⟨(e4.trans e3).trans e4', zs, rfl, ?_⟩
                  rw [hz]
                  constructor
                  · intro g j x' y' hj h1 h2
                    by_cases hji : j = i
                    · subst hji
                      rw [hdx] at h1; rw [hdy] at h2; cases h1; cases h2; exact hsame
                    · exact g j x' y' (by omega) h1 h2
                  · intro g j x' y' hj; exact g j x' y' (by omega)
              · obtain ⟨e4, zs, rfl, hz⟩ := p
                walk_at "w"
                rename_i p5 H5 hp5 e5 hp5'
                refine r_eqD (dp_ints (.of (e5 _ _ hacc))) (.lst (.of hp5') .nil) (shaped_ints _) (by rfl) ?_
                rw [eqv_nil]
                have q' := q H5 ((e12.trans e4).trans e5)
                rw [show smD (.tuple ds) (.tuple es) = smAll ds es by simp [smD]] at q'
                have fin : (zs.map PyData.int).isEmpty = smAll ds es := by
                  rw [Bool.eq_iff_iff, smAll_iff hl', List.isEmpty_iff, List.map_eq_nil_iff, hz]
                  constructor
                  · intro g i x y h1 h2; exact g i x y (by have := (List.getElem?_eq_some_iff.mp h1).1; omega) h1 h2
                  · intro g j x y _ h1 h2; exact g j x y h1 h2
                rw [fin]; exact q'
          · obtain ⟨a, xs, rfl, ha, na, la, ta⟩ := hv.lst_inv
            obtain ⟨b, ys, rfl, hb, nb, lb, tb⟩ := hu.lst_inv
            refine r_len (.inl (.of (e12 _ _ ha))) rfl ?_
            walk_at "w"
            refine r_len (.inl (.of (e12 _ _ hb))) rfl ?_
            walk_at "w"
            cases n with
            | zero => simp [okD] at ok
            | succ n =>
            simp only [okD, Bool.and_eq_true, decide_eq_true_eq, List.all_eq_true] at ok
            refine if_by (fun hl => ?_) (fun hl => ?_)
            · walk_at "w"
              have hl' : ds.length ≠ es.length := by intro z; apply absurd hl; simp; omega
              have q' := q H2 e12
              rw [show smD (.list ds) (.list es) = smAll ds es by simp [smD], smAll_len hl'] at q'
              exact q'
            · have hl' : ds.length = es.length := by
                have hl2 : ((xs.length : Int) = (ys.length : Int)) := by simpa using hl
                omega
              walk_at "w"
              refine ⟨a, b, xs, ys, rfl, .inl ⟨.of (e12 _ _ ha), .of (e12 _ _ hb), ?_⟩⟩
              refine lcZL (by omega) (fun i acc D H' => Ex H2 H' ∧ ∃ zs : List Int, acc = zs.map V.int ∧ (zs = [] ↔ ∀ (j : Nat) (x y : PyData), j < i → ds[j]? = some x → es[j]? = some y → smD x y = true))
                (fun D H3 _ e3 _ => ⟨e3, [], rfl, by simp⟩) (fun i acc D H' _ p => ⟨.of (p.1 _ _ (e12 _ _ ha)), .of (p.1 _ _ (e12 _ _ hb))⟩) (fun i x y acc D H' T H3 hx hy hlt hD hacc p e3 hT => ?_) (fun acc D H' _ hD hacc p => ?_)
              · obtain ⟨e4, zs, rfl, hz⟩ := p
                obtain ⟨dx, hdx⟩ := get_of_len la hx
                obtain ⟨dy, hdy⟩ := get_of_len lb hy
                have hi : i < 90000 := by have h := (List.getElem?_eq_some_iff.mp hx).1; omega
                have e23 := (e12.trans e4).trans e3
                refine w_gtup (.of hT) rfl ?_
                walk_at "w"
                refine ⟨M, x, y, dx, dy, rfl, (ta i x dx hx hdx).ex e23, (tb i y dy hy hdy).ex e23, ok.2 dx (List.mem_of_getElem? hdx), fun H4 e4' => ?_⟩
                walk_at "w"
                refine if_by (fun hu' => ?_) (fun hu' => ?_)
                · have hsame : smD dx dy = false := by simpa using hu'
                  walk_at "w"
                  refine k_lc (e4' _ _ hacc) hlt hi fun H5 h5 k5 => ⟨Ex.mut ((e4.trans e3).trans e4') hD k5, zs ++ [0], by simp, ?_⟩
                  constructor
                  · intro z; simp at z
                  · intro g
                    have := g i dx dy (Nat.lt_succ_self i) hdx hdy
                    rw [hsame] at this; cases this
                · have hsame : smD dx dy = true := by simpa using hu'
                  refine k_lcN (e4' _ _ hacc) hlt ⟨(e4.trans e3).trans e4', zs, rfl, ?_⟩
                  rw [hz]
                  constructor
                  · intro g j x' y' hj h1 h2
                    by_cases hji : j = i
                    · subst hji
                      rw [hdx] at h1; rw [hdy] at h2; cases h1; cases h2; exact hsame
                    · exact g j x' y' (by omega) h1 h2
                  · intro g j x' y' hj; exact g j x' y' (by omega)
              · obtain ⟨e4, zs, rfl, hz⟩ := p
                walk_at "w"
                rename_i p5 H5 hp5 e5 hp5'
                refine r_eqD (dp_ints (.of (e5 _ _ hacc))) (.lst (.of hp5') .nil) (shaped_ints _) (by rfl) ?_
                rw [eqv_nil]
                have q' := q H5 ((e12.trans e4).trans e5)
                rw [show smD (.list ds) (.list es) = smAll ds es by simp [smD]] at q'
                have fin : (zs.map PyData.int).isEmpty = smAll ds es := by
                  rw [Bool.eq_iff_iff, smAll_iff hl', List.isEmpty_iff, List.map_eq_nil_iff, hz]
                  constructor
                  · intro g i x y h1 h2; exact g i x y (by have := (List.getElem?_eq_some_iff.mp h1).1; omega) h1 h2
                  · intro g j x y _ h1 h2; exact g j x y h1 h2
                rw [fin]; exact q'
    · walk_at "w"
      have q' := q H1 e1
      have hv1 := hv.ex e1
      cases hu with
      | lst h n l t => simp [isTup, isLst] at hs
      | tup h l t => simp [isTup, isLst] at hs
      | non =>
        refine if_dt (by rfl) ?_
        walk_at "w"
        rw [show decide (v = .non) = smD d .none by cases hv1 <;> simp [smD]]
        exact q'
      | bl b =>
        refine if_df (by rfl) ?_
        walk_at "w"
        cases b with
        | true =>
          refine if_dt (by rfl) ?_
          walk_at "w"
          rw [show decide (v = .bl true) = smD d (.bool true) by cases hv1 <;> simp [smD]]
          exact q'
        | false =>
          refine if_df (by rfl) ?_
          walk_at "w"
          refine if_dt (by rfl) ?_
          walk_at "w"
          rw [show decide (v = .bl false) = smD d (.bool false) by cases hv1 <;> simp [smD]]
          exact q'
      | int i =>
        refine if_df (by rfl) ?_
        walk_at "w"
        refine if_df (by rfl) ?_
        walk_at "w"
        refine if_df (by rfl) ?_
        walk_at "w"
        refine r_isiInt (.int (M := M) i) ?_
        walk_at "w"
        refine if_dt (by rfl) ?_
        walk_at "w"
        refine r_isiInt hv1 ?_
        walk_at "w"
        cases hv1 with
        | int j =>
          refine if_dt (by rfl) ?_
          walk_at "w"
          refine r_isiBool (.int (M := M) j) ?_
          walk_at "w"
          refine if_dt (by rfl) ?_
          walk_at "w"
          rw [show decide (j = i) = smD (.int j) (.int i) by simp [smD]; rfl]
          exact q'
        | bl b =>
          refine if_dt (by rfl) ?_
          walk_at "w"
          refine r_isiBool (.bl (M := M) b) ?_
          walk_at "w"
          refine if_df (by rfl) ?_
          simpa [smD] using q'
        | _ => refine if_df (by rfl) ?_; simpa [smD] using q'
      | str x =>
        refine if_df (by rfl) ?_
        walk_at "w"
        refine if_df (by rfl) ?_
        walk_at "w"
        refine if_df (by rfl) ?_
        walk_at "w"
        refine r_isiInt (.str (M := M) x) ?_
        walk_at "w"
        refine if_df (by rfl) ?_
        walk_at "w"
        refine r_isiStr hv1 ?_
        walk_at "w"
        cases hv1 with
        | str y =>
          refine if_dt (by rfl) ?_
          walk_at "w"
          rw [show decide (y = x) = smD (.str y) (.str x) by simp [smD]; rfl]
          exact q'
        | _ => refine if_df (by rfl) ?_; simpa [smD] using q'
end
end BkL
namespace BkL
open PySem PySem.Spec L2 BkG
local macro_rules | `(tactic| walk_at "w1") => `(tactic| first
  | with_reducible refine w_seq ?_ | with_reducible refine w_set ?_ | with_reducible refine w_ret ?_ | with_reducible refine w_drop ?_ | with_reducible refine w_ifS ?_
  | with_reducible refine w_next ?_ | with_reducible refine w_c ?_ | ((with_reducible refine' w_var ?hv ?_); (case hv => rfl)) | with_reducible refine w_op ?_ | with_reducible refine w_cons ?_ | with_reducible refine w_nil ?_
  | with_reducible refine w_cb ?_ | with_reducible refine w_call ?_ | with_reducible refine w_tup ?_ | with_reducible refine w_lst ?_ | with_reducible refine w_bm ?_ | with_reducible refine w_bm0 ?_ | with_reducible refine w_un ?_
  | with_reducible refine w_test ?_ | with_reducible refine w_B ?_ | with_reducible refine k_B ?_ | with_reducible refine w_and ?_ | with_reducible refine w_or ?_ | with_reducible refine w_not ?_ | with_reducible refine w_if ?_
  | with_reducible refine w_andV ?_ | with_reducible refine w_orV ?_ | with_reducible refine w_notV ?_ | with_reducible refine k_andV ?_ | with_reducible refine k_orV ?_ | with_reducible refine k_notV ?_
  | with_reducible refine w_chain ?_ | with_reducible refine ex_bl ?_ | with_reducible refine w_isN ?_ | with_reducible refine w_notN ?_ | with_reducible refine w_yes ?_
  | with_reducible refine r_I0 ?_ | with_reducible refine r_U ?_ | with_reducible refine r_eqI ?_ | with_reducible refine r_neI ?_ | with_reducible refine r_eqS ?_ | with_reducible refine r_neS ?_ | with_reducible refine r_eqB ?_ | with_reducible refine r_neB ?_
  | with_reducible refine r_abs ?_ | with_reducible refine r_int ?_ | with_reducible refine r_intB ?_
  | with_reducible refine w_sl ?_ | with_reducible refine w_nop ?_ | with_reducible refine w_part ?_ | with_reducible refine k_part ?_ | with_reducible refine w_revL ?_
  | with_reducible refine w_asg ?_ | with_reducible refine w_gname ?_ | with_reducible refine w_gsub ?_ | with_reducible refine w_gnil ?_ | with_reducible refine w_gcons ?_ | with_reducible refine w_retN ?_ | with_reducible refine w_brk ?_ | with_reducible refine w_cont ?_
  | with_reducible refine w_par ?_ | with_reducible refine w_par3 ?_ | with_reducible refine par_ok ?_ | with_reducible refine par_ok3 ?_ | ((with_reducible refine' w_aug ?hv ?_); (case hv => rfl)) | with_reducible refine i_I ?_
  | with_reducible refine w_forL ?_ | with_reducible refine w_forT ?_ | with_reducible refine w_forR1 ?_ | with_reducible refine w_forE ?_ | with_reducible refine w_lcL ?_ | with_reducible refine w_lcT ?_ | with_reducible refine w_lcR ?_
  | ((with_reducible refine a_tup ?hz ?_); (case hz => exact Nat.le_of_ble_eq_true rfl); intro _ _ _ _ _) | ((with_reducible refine a_lst ?hz ?_); (case hz => exact Nat.le_of_ble_eq_true rfl); intro _ _ _ _ _)
  | ((with_reducible refine k_turn1 ?hw ?_); (case hw => rfl)) | ((with_reducible refine k_turn ?hw ?_); (case hw => rfl)) | with_reducible refine r_isV ?_ | with_reducible refine r_isNotV ?_ | with_reducible refine r_isN ?_ | with_reducible refine r_notN ?_ | with_reducible refine w_lcZ ?_
  | ((with_reducible refine r_I ?hc ?_); (case hc => first | decide | assumption))
  | with_reducible refine w_forET ?_
  | ((with_reducible refine w_dnewK ?_); intro _ _ _ _ _) | with_reducible refine w_dput ?_ | with_reducible refine w_lstRg ?_ | with_reducible refine w_lstZip ?_ | with_reducible refine w_callK ?_
  | (with_reducible refine if_pos' ?_) | (with_reducible refine if_neg' ?_))
local macro_rules | `(tactic| walk_at "w") => `(tactic| repeat (walk_at "w1"))

theorem fresh_deal {H : Hp} {D L p : Addr} (h : Deal H D L) (hp : H p = none) : p ≠ D ∧ p ≠ L := by
  obtain ⟨st, b, d⟩ := h
  exact ⟨fun e => (by rw [e, d.hD] at hp; cases hp), fun e => (by rw [e, d.hL] at hp; cases hp)⟩
def spRound : Sp := fun vs H Q _ => ∃ w : Nat, vs = [.int w] ∧ w ≤ 64 ∧ Q (.int (2 ^ w)) H
def spWidthD : Sp := fun vs H Q _ => ∃ D L, vs = [.ref D] ∧ Deal H D L ∧ ∀ (w : Nat) (H' : Hp), 1 ≤ w → w ≤ 64 → Deal H' D L → Kp [D, L] H H' → Q (.int w) H'
def spWordD : Sp := fun vs H Q _ => ∃ (D L : Addr) (w : Nat), vs = [.ref D, .int w] ∧ 1 ≤ w ∧ w ≤ 64 ∧ Deal H D L ∧ ∀ (z : Int) (H' : Hp), Wd w z → Deal H' D L → Kp [D, L] H H' → Q (.int z) H'
/-- whether d is a word: asked for words alone -/
def spIsOfW : Sp := fun vs H Q _ => ∃ (M : List Addr) (v : V) (d : PyData) (w : Nat), vs = [v, .str "word", .int w] ∧ w ≤ 64 ∧ Dv M H v d ∧ Q (.bl (isWord w d)) H
section
variable {P : Program} {w : World} {K : PySem.W.Frag} {mg : Str → Option Value} {base : Heap}
abbrev s_lisint : Stmt := topS 32
theorem sc_lisint : FnScope ["value"] ["value"] (defScope s_lisint) := ⟨rfl, rfl, rfl, by decide +kernel, rfl, by decide +kernel, by decide +kernel⟩
theorem C_lisint (F : Fn K mg "_law_is_int" s_lisint ["value"]) (Z : Bz mg) : Cal P w K mg base 1 "_law_is_int" spIntg := by
  have S := sc_lisint
  refine F.cal S (fun vs H Q E h => ?_) (fun f cdv A' outer s H vs Q E hr h => ?_)
  · obtain ⟨M, v, d, rfl, _⟩ := h; rfl
  · obtain ⟨M, v, d, rfl, hv, q⟩ := h
    refine ⟨_, (pss_one (ps_ret (pe_and (pe_callB call_isi (by rfl) Z.isinstance (by decide +kernel) (pa_cons (pv 0) (pa_cons (pe_bltn (v := .ty "int") (by rfl) Z.int (by decide +kernel) rfl) pa_nil))) (pe_one (pe_not (pe_callB call_isi (by rfl) Z.isinstance (by decide +kernel) (pa_cons (pv 0) (pa_cons (pe_bltn (v := .ty "bool") (by rfl) Z.bool (by decide +kernel) rfl) pa_nil)))))))), ?_⟩
    try dsimp only [cxOf, Cx.nox, Cx.wish]
    walk_at "w"
    refine r_isiInt hv ?_
    walk_at "w"
    refine if_by (fun h => ?_) (fun h => ?_)
    · walk_at "w"
      refine r_isiBool hv ?_
      walk_at "w"
      have e : (!isBool d) = isIntg d := by cases d <;> simp [isInt, isBool, isIntg] at h ⊢
      rw [e]; exact q
    · have e : isIntg d = false := by cases d <;> simp [isInt, isIntg] at h ⊢
      rw [e] at q; exact q
abbrev s_round : Stmt := topS 33
theorem sc_round : FnScope ["width", "found", "turn"] ["width"] (defScope s_round) := ⟨rfl, rfl, rfl, by decide +kernel, rfl, by decide +kernel, by decide +kernel⟩
theorem C_round (F : Fn K mg "_law_round" s_round ["width"]) (Z : Bz mg) : Cal P w K mg base 1 "_law_round" spRound := by
  have S := sc_round
  refine F.cal S (fun vs H Q E h => ?_) (fun f cdv A' outer s H vs Q E hr h => ?_)
  · obtain ⟨w, rfl, _⟩ := h; rfl
  · obtain ⟨w, rfl, w2, q⟩ := h
    refine ⟨_, (pss_cons (ps_set (i := 1) S.nd rfl (Or.inl rfl) pe_int)
      (pss_cons (ps_for PassesOwn.never rfl (pi_range1 (by rfl) Z.range (pa_cons (pv 0) pa_nil)) (pg_name (i := 2) S.nd rfl (Or.inl rfl)) (pss_one (ps_set (i := 1) S.nd rfl (Or.inl rfl) (pe_op op_mulW (pv 1) pe_int))))
      (pss_one (ps_ret (pv 1))))), ?_⟩
    try dsimp only [cxOf, Cx.nox, Cx.wish]
    walk_at "w"
    refine a_rng1 (n := w) rfl (by omega) (fun i σ' H' => H' = H ∧ ∃ z2, σ' = [some (.int w), some (.int (2 ^ i)), z2]) ⟨rfl, none, rfl⟩ (fun i σ' H' hi p => ?_) (fun σ' H' p => ?_)
    · obtain ⟨rfl, z2, rfl⟩ := p
      walk_at "w"
      have hs : Wd (i + 1) (2 ^ i) := ⟨Int.le_of_lt (pow_pos' i), by rw [Int.pow_succ]; have := pow_pos' i; omega⟩
      refine r_I (wide_mul (a := 64) (b := 64) (hs.small (by omega)) (by decide) (by decide) (by decide) (by decide)) ?_
      refine ⟨rfl, some (.int (i : Int)), ?_⟩
      rw [Int.pow_succ]; rfl
    · obtain ⟨rfl, z2, rfl⟩ := p
      walk_at "w"
      exact q
abbrev s_width : Stmt := topS 34
theorem sc_width : FnScope ["deal"] ["deal"] (defScope s_width) := ⟨rfl, rfl, rfl, by decide +kernel, rfl, by decide +kernel, by decide +kernel⟩
theorem C_width (F : Fn K mg "_law_width" s_width ["deal"]) (Z : Bz mg) (CO : Cal P w K mg base 2 "_law_of" spOf) : Cal P w K mg base 3 "_law_width" spWidthD := by
  have S := sc_width
  refine F.cal S (fun vs H Q E h => ?_) (fun f cdv A' outer s H vs Q E hr h => ?_)
  · obtain ⟨D, L, rfl, _⟩ := h; rfl
  · obtain ⟨D, L, rfl, hd, q⟩ := h
    refine ⟨_, (pss_one (ps_ret (pe_c0 CO hr (by omega) (by rfl) (pa_cons (pv 0) (pa_cons (pe_lst (pa_cons pe_int (pa_cons pe_int (pa_cons pe_int (pa_cons pe_int (pa_cons pe_int (pa_cons pe_int (pa_cons pe_int (pa_cons pe_int pa_nil))))))))) pa_nil))))), ?_⟩
    try dsimp only [cxOf, Cx.nox, Cx.wish]
    walk_at "w"
    rename_i p H1 hp e1 h1
    obtain ⟨n1, n2⟩ := fresh_deal hd hp
    refine ⟨D, L, p, _, rfl, hd.keep e1, h1, n1, n2, by simp, by simp, fun i x H' hx d' k => ?_⟩
    obtain ⟨z, rfl, z1, z2⟩ : ∃ z : Int, x = .int z ∧ 1 ≤ z ∧ z ≤ 64 := by
      have hm := List.mem_of_getElem? hx
      simp only [List.mem_cons, List.not_mem_nil, or_false] at hm
      rcases hm with rfl | rfl | rfl | rfl | rfl | rfl | rfl | rfl <;> exact ⟨_, rfl, by decide, by decide⟩
    have q' := q z.toNat H' (by omega) (by omega) d' (k.pre e1)
    rw [Int.toNat_of_nonneg (by omega)] at q'
    exact q'
abbrev s_word : Stmt := topS 35
theorem sc_word : FnScope ["deal", "width", "size"] ["deal", "width"] (defScope s_word) := ⟨rfl, rfl, rfl, by decide +kernel, rfl, by decide +kernel, by decide +kernel⟩
theorem C_word (F : Fn K mg "_law_word" s_word ["deal", "width"]) (Z : Bz mg) (CA : Cal P w K mg base 1 "_law_any" spAny) (CO : Cal P w K mg base 2 "_law_of" spOf) (CR : Cal P w K mg base 1 "_law_round" spRound) : Cal P w K mg base 3 "_law_word" spWordD := by
  have S := sc_word
  refine F.cal S (fun vs H Q E h => ?_) (fun f cdv A' outer s H vs Q E hr h => ?_)
  · obtain ⟨D, L, w, rfl, _⟩ := h; rfl
  · obtain ⟨D, L, w, rfl, w1, w2, hd, q⟩ := h
    refine ⟨_, (pss_cons (ps_set (i := 2) S.nd rfl (Or.inl rfl) (pe_c0 CR hr (by omega) (by rfl) (pa_cons (pv 1) pa_nil)))
      (pss_one (ps_ret (pe_op op_mod (pe_callTy (cr_int) (by rfl) Z.int (by decide +kernel) (pa_cons (pe_c0 CO hr (by omega) (by rfl) (pa_cons (pv 0) (pa_cons (pe_lst (pa_cons pe_int (pa_cons pe_int (pa_cons pe_int (pa_cons pe_int (pa_cons (pe_op op_sub (pv 2) pe_int) (pa_cons (pe_op op_sub (pv 2) pe_int) (pa_cons (pe_op op_fdivW (pv 2) pe_int) (pa_cons (pe_c0 CA hr (by omega) (by rfl) (pa_cons (pv 0) (pa_cons (pv 2) pa_nil))) pa_nil))))))))) pa_nil))) pa_nil)) (pv 2))))), ?_⟩
    try dsimp only [cxOf, Cx.nox, Cx.wish]
    walk_at "w"
    refine ⟨w, rfl, w2, ?_⟩
    walk_at "w"
    have hpos := pow_pos' w
    refine r_I (wide_div (b := 8) (by decide) (by decide) (by decide) (by decide)) ?_
    walk_at "w"
    have hsm : (2 ^ w : Int).natAbs < 2 ^ 4000 := by
      have e : (2 ^ w : Int) = ((2 ^ w : Nat) : Int) := (pow_cast w).symm
      rw [e, Int.natAbs_natCast]
      exact Nat.pow_lt_pow_right (by decide) (by omega)
    refine ⟨D, L, _, rfl, hd, hpos, hsm, fun z H1 z0 z1 d1 k1 => ?_⟩
    walk_at "w"
    rename_i p H2 hp e2 h2
    obtain ⟨n1, n2⟩ := fresh_deal d1 hp
    refine ⟨D, L, p, _, rfl, d1.keep e2, h2, n1, n2, by simp, by simp, fun i x H' hx d' k => ?_⟩
    obtain ⟨y, rfl⟩ : ∃ y : Int, x = .int y := by
      have hm := List.mem_of_getElem? hx
      simp only [List.mem_cons, List.not_mem_nil, or_false] at hm
      rcases hm with rfl | rfl | rfl | rfl | rfl | rfl | rfl | rfl <;> exact ⟨_, rfl⟩
    walk_at "w"
    exact q _ _ (Wd.mod w y) d' ((k1.ex e2).trans k)
abbrev s_isof : Stmt := topS 37
theorem sc_isof : FnScope ["value", "kind", "width", "size", "one"] ["value", "kind", "width"] (defScope s_isof) := ⟨rfl, rfl, rfl, by decide +kernel, rfl, by decide +kernel, by decide +kernel⟩
theorem C_isof (F : Fn K mg "_law_is_of" s_isof ["value", "kind", "width"]) (Z : Bz mg) (CI : Cal P w K mg base 1 "_law_is_int" spIntg) (CR : Cal P w K mg base 1 "_law_round" spRound) : Cal P w K mg base 2 "_law_is_of" spIsOfW := by
  have S := sc_isof
  refine F.cal S (fun vs H Q E h => ?_) (fun f cdv A' outer s H vs Q E hr h => ?_)
  · obtain ⟨M, v, d, w, rfl, _⟩ := h; rfl
  · obtain ⟨M, v, d, w, rfl, w2, hv, q⟩ := h
    refine ⟨_, (pss_cons (ps_set (i := 3) S.nd rfl (Or.inl rfl) (pe_c0 CR hr (by omega) (by rfl) (pa_cons (pv 2) pa_nil)))
      (pss_cons (ps_if (pt_cmpR op_eq (pv 1) pe_str (nomark _)) (pss_one (ps_ret (pe_and (pe_c0 CI hr (by omega) (by rfl) (pa_cons (pv 0) pa_nil)) (pe_one (pe_chain op_le op_lt pe_int (pv 0) (pv 3)))))) pss_nil)
      pss_never)), ?_⟩
    try dsimp only [cxOf, Cx.nox, Cx.wish]
    walk_at "w"
    refine ⟨w, rfl, w2, ?_⟩
    walk_at "w"
    refine if_dt (decide_eq_true rfl) ?_
    walk_at "w"
    refine ⟨M, v, d, rfl, hv, ?_⟩
    walk_at "w"
    refine if_by (fun h => ?_) (fun h => ?_)
    · cases hv with
      | int n =>
        walk_at "w"
        by_cases h1 : (0 : Int) ≤ n
        · rw [decide_eq_true h1]
          walk_at "w"
          have e : isWord w (.int n) = decide (n < 2 ^ w) := by simp [isWord, h1]
          rw [e] at q; exact q
        · rw [decide_eq_false h1]
          walk_at "w"
          have e : isWord w (.int n) = false := by simp [isWord, h1]
          rw [e] at q; exact q
      | _ => simp [isIntg] at h
    · have e : isWord w d = false := by cases d <;> simp [isWord, isIntg] at h ⊢
      rw [e] at q; exact q
end
end BkL
namespace BkL
open PySem PySem.Spec L2 BkG
local macro_rules | `(tactic| walk_at "w1") => `(tactic| first
  | with_reducible refine w_seq ?_ | with_reducible refine w_set ?_ | with_reducible refine w_ret ?_ | with_reducible refine w_drop ?_ | with_reducible refine w_ifS ?_
  | with_reducible refine w_next ?_ | with_reducible refine w_c ?_ | ((with_reducible refine' w_var ?hv ?_); (case hv => rfl)) | with_reducible refine w_op ?_ | with_reducible refine w_cons ?_ | with_reducible refine w_nil ?_
  | with_reducible refine w_cb ?_ | with_reducible refine w_call ?_ | with_reducible refine w_tup ?_ | with_reducible refine w_lst ?_ | with_reducible refine w_bm ?_ | with_reducible refine w_bm0 ?_ | with_reducible refine w_un ?_
  | with_reducible refine w_test ?_ | with_reducible refine w_B ?_ | with_reducible refine k_B ?_ | with_reducible refine w_and ?_ | with_reducible refine w_or ?_ | with_reducible refine w_not ?_ | with_reducible refine w_if ?_
  | with_reducible refine w_andV ?_ | with_reducible refine w_orV ?_ | with_reducible refine w_notV ?_ | with_reducible refine k_andV ?_ | with_reducible refine k_orV ?_ | with_reducible refine k_notV ?_
  | with_reducible refine w_chain ?_ | with_reducible refine ex_bl ?_ | with_reducible refine w_isN ?_ | with_reducible refine w_notN ?_ | with_reducible refine w_yes ?_
  | with_reducible refine r_I0 ?_ | with_reducible refine r_U ?_ | with_reducible refine r_eqI ?_ | with_reducible refine r_neI ?_ | with_reducible refine r_eqS ?_ | with_reducible refine r_neS ?_ | with_reducible refine r_eqB ?_ | with_reducible refine r_neB ?_
  | with_reducible refine r_abs ?_ | with_reducible refine r_int ?_ | with_reducible refine r_intB ?_
  | with_reducible refine w_sl ?_ | with_reducible refine w_nop ?_ | with_reducible refine w_part ?_ | with_reducible refine k_part ?_ | with_reducible refine w_revL ?_
  | with_reducible refine w_asg ?_ | with_reducible refine w_gname ?_ | with_reducible refine w_gsub ?_ | with_reducible refine w_gnil ?_ | with_reducible refine w_gcons ?_ | with_reducible refine w_retN ?_ | with_reducible refine w_brk ?_ | with_reducible refine w_cont ?_
  | with_reducible refine w_par ?_ | with_reducible refine w_par3 ?_ | with_reducible refine par_ok ?_ | with_reducible refine par_ok3 ?_ | ((with_reducible refine' w_aug ?hv ?_); (case hv => rfl)) | with_reducible refine i_I ?_
  | with_reducible refine w_forL ?_ | with_reducible refine w_forT ?_ | with_reducible refine w_forR1 ?_ | with_reducible refine w_forE ?_ | with_reducible refine w_lcL ?_ | with_reducible refine w_lcT ?_ | with_reducible refine w_lcR ?_
  | ((with_reducible refine a_tup ?hz ?_); (case hz => exact Nat.le_of_ble_eq_true rfl); intro _ _ _ _ _) | ((with_reducible refine a_lst ?hz ?_); (case hz => exact Nat.le_of_ble_eq_true rfl); intro _ _ _ _ _)
  | ((with_reducible refine k_turn1 ?hw ?_); (case hw => rfl)) | ((with_reducible refine k_turn ?hw ?_); (case hw => rfl)) | with_reducible refine r_isV ?_ | with_reducible refine r_isNotV ?_ | with_reducible refine r_isN ?_ | with_reducible refine r_notN ?_ | with_reducible refine w_lcZ ?_
  | ((with_reducible refine r_I ?hc ?_); (case hc => first | decide | assumption))
  | with_reducible refine w_forET ?_
  | ((with_reducible refine w_dnewK ?_); intro _ _ _ _ _) | with_reducible refine w_dput ?_ | with_reducible refine w_lstRg ?_ | with_reducible refine w_lstZip ?_ | with_reducible refine w_callK ?_
  | (with_reducible refine if_pos' ?_) | (with_reducible refine if_neg' ?_))
local macro_rules | `(tactic| walk_at "w") => `(tactic| repeat (walk_at "w1"))

local macro_rules | `(tactic| walk_at "c") => `(tactic| repeat (first | walk_at "w1" | with_reducible refine k_B ?_ | refine if_dt (by decide +kernel) ?_ | refine if_df (by decide +kernel) ?_ | refine r_in (.inr (.of (by assumption))) (by rfl) (by rfl) ?_ | refine r_in (.inl (.of (by assumption))) (by rfl) (by rfl) ?_))
theorem isEmpty_filter {w : Nat} : ∀ {ds : List PyData}, (ds.filter fun d => !isWord w d).isEmpty = ds.all (isWord w)
  | [] => rfl
  | d :: ds => by by_cases h : isWord w d = true <;> simp [h, isEmpty_filter (w := w) (ds := ds)]
theorem filter_take {f : PyData → Bool} {ds : List PyData} {i : Nat} {d : PyData} (h : ds[i]? = some d) : (ds.take (i + 1)).filter f = (ds.take i).filter f ++ (if f d = true then [d] else []) := by
  rw [take_more h, List.filter_append]; congr 1; by_cases e : f d = true <;> simp [e]
theorem snoc_rel {R : V → PyData → Prop} {xs : List V} {ds : List PyData} {x : V} {d : PyData} (l : xs.length = ds.length) (h : ∀ (j : Nat) (v : V) (e : PyData), xs[j]? = some v → ds[j]? = some e → R v e) (hx : R x d) : ∀ (j : Nat) (v : V) (e : PyData), (xs ++ [x])[j]? = some v → (ds ++ [d])[j]? = some e → R v e := by
  intro j v e h1 h2
  by_cases hj : j < xs.length
  · rw [List.getElem?_append_left hj] at h1
    rw [List.getElem?_append_left (by omega)] at h2
    exact h j v e h1 h2
  · rw [List.getElem?_append_right (by omega)] at h1
    rw [List.getElem?_append_right (by omega)] at h2
    rw [l] at h1
    rcases hk : j - ds.length with _ | k
    · rw [hk] at h1 h2; cases h1; cases h2; exact hx
    · rw [hk] at h1; cases h1
section
variable {P : Program} {w : World} {K : PySem.W.Frag} {mg : Str → Option Value} {base : Heap}
abbrev s_isofk : Stmt := topS 37
theorem sc_isofk : FnScope ["value", "kind", "width", "size", "one"] ["value", "kind", "width"] (defScope s_isofk) := ⟨rfl, rfl, rfl, by decide +kernel, rfl, by decide +kernel, by decide +kernel⟩
theorem C_isofk (F : Fn K mg "_law_is_of" s_isofk ["value", "kind", "width"]) (Z : Bz mg) (CI : Cal P w K mg base 1 "_law_is_int" spIntg) (CR : Cal P w K mg base 1 "_law_round" spRound) (CS : Cal P w K mg base 6 "_law_same" (spSame 5)) : Cal P w K mg base 7 "_law_is_of" spIsOfK := by
  have CW : Cal P w K mg base 2 "_law_is_of" spIsOfW := C_isof F Z CI CR
  have S := sc_isofk
  refine F.cal S (fun vs H Q E h => ?_) (fun f cdv A' outer s H vs Q E hr h => ?_)
  · obtain ⟨M, v, d, k, w, rfl, _⟩ := h; rfl
  · obtain ⟨M, v, d, k, w, rfl, hk, w2, hv, hn, q⟩ := h
    refine ⟨_, (pss_cons (ps_set (i := 3) S.nd rfl (Or.inl rfl) (pe_c0 CR hr (by omega) (by rfl) (pa_cons (pv 2) pa_nil)))
      (pss_cons (ps_if (pt_cmpR op_eq (pv 1) pe_str (nomark _)) (pss_one (ps_ret (pe_and (pe_c0 CI hr (by omega) (by rfl) (pa_cons (pv 0) pa_nil)) (pe_one (pe_chain op_le op_lt pe_int (pv 0) (pv 3)))))) pss_nil)
      (pss_cons (ps_if (pt_cmpR op_in_seq (pv 1) (pe_lst (pa_cons pe_str (pa_cons pe_str (pa_cons pe_str pa_nil)))) (by rfl)) (pss_cons (ps_if (PW.pt (pw_or (pt_not (pt_val (pe_callB call_isi (by rfl) Z.isinstance (by decide +kernel) (pa_cons (pv 0) (pa_cons (pe_bltn (v := .ty "tuple") (by rfl) Z.tuple (by decide +kernel) rfl) pa_nil))))) (pw_or (pt_cmpR op_ne (pe_callB (cr_len) (by rfl) Z.len (by decide +kernel) (pa_cons (pv 0) pa_nil)) pe_int (nomark _)) (pw_or1 (pt_not (pt_val (pe_c0 CS hr (by omega) (by rfl) (pa_cons (pe_ix ix_tup (pv 0) pe_int (fun _ _ => rfl)) (pa_cons (pe_ifExp (pt_cmpR op_eq (pv 1) pe_str (nomark _)) pe_str pe_str) pa_nil))))))))) (pss_one (ps_ret pe_bl)) pss_nil)
      (pss_one (ps_ret (pe_and (pe_callB call_isi (by rfl) Z.isinstance (by decide +kernel) (pa_cons (pe_ix ix_tup (pv 0) pe_int (fun _ _ => rfl)) (pa_cons (pe_bltn (v := .ty "tuple") (by rfl) Z.tuple (by decide +kernel) rfl) pa_nil))) (pe_and (pe_cmpR op_le (pe_callB (cr_len) (by rfl) Z.len (by decide +kernel) (pa_cons (pe_ix ix_tup (pv 0) pe_int (fun _ _ => rfl)) pa_nil)) pe_int (nomark _)) (pe_one (pe_cmpR (op_eqD hr.units) (pe_lc (own := [("one", 4)]) (g := (gName 4)) rfl S.nd (pi_tup (pe_ix ix_tup (pv 0) pe_int (fun _ _ => rfl))) (blkOk_by (N := ["value", "kind", "width", "size", "one"]) (sc := defScope s_isofk) (by decide +kernel)) (fun _ _ _ _ _ => (pg_name (i := 4) S.nd rfl (Or.inl rfl))) (fun _ _ _ _ _ => (pts_one (pt_not (pt_val (pe_c0 CW hr (by omega) (by rfl) (pa_cons (pv 4) (pa_cons pe_str (pa_cons (pv 2) pa_nil)))))))) (fun _ _ _ _ _ => (pv 4))) (pe_lst pa_nil) (nomark _)))))))) pss_nil)
      (pss_one (ps_ret (pe_and (pe_callB call_isi (by rfl) Z.isinstance (by decide +kernel) (pa_cons (pv 0) (pa_cons (pe_bltn (v := .ty "tuple") (by rfl) Z.tuple (by decide +kernel) rfl) pa_nil))) (pe_and (pe_chain op_le op_le pe_int (pe_callB (cr_len) (by rfl) Z.len (by decide +kernel) (pa_cons (pv 0) pa_nil)) pe_int) (pe_one (pe_cmpR (op_eqD hr.units) (pe_lc (own := [("one", 4)]) (g := (gName 4)) rfl S.nd (pi_tup (pv 0)) (blkOk_by (N := ["value", "kind", "width", "size", "one"]) (sc := defScope s_isofk) (by decide +kernel)) (fun _ _ _ _ _ => (pg_name (i := 4) S.nd rfl (Or.inl rfl))) (fun _ _ _ _ _ => (pts_one (pt_not (pt_val (pe_c0 CW hr (by omega) (by rfl) (pa_cons (pv 4) (pa_cons pe_str (pa_cons (pv 2) pa_nil)))))))) (fun _ _ _ _ _ => (pv 4))) (pe_lst pa_nil) (nomark _)))))))))), ?_⟩
    try dsimp only [cxOf, Cx.nox, Cx.wish]
    walk_at "w"
    refine ⟨w, rfl, w2, ?_⟩
    rcases cases5 hk with rfl | rfl | rfl | rfl | rfl
    · walk_at "c"
      refine ⟨M, v, d, rfl, hv, ?_⟩
      walk_at "w"
      have q := q H (fun _ _ h => h)
      refine if_by (fun h => ?_) (fun h => ?_)
      · cases hv with
        | int n =>
          walk_at "w"
          by_cases h1 : (0 : Int) ≤ n
          · rw [decide_eq_true h1]
            walk_at "w"
            have e : isOfD w 0 (.int n) = decide (n < 2 ^ w) := by simp [isOfD, isWord, h1]
            rw [e] at q; exact q
          · rw [decide_eq_false h1]
            walk_at "w"
            have e : isOfD w 0 (.int n) = false := by simp [isOfD, isWord, h1]
            rw [e] at q; exact q
        | _ => simp [isIntg] at h
      · have e : isOfD w 0 d = false := by cases d <;> simp [isOfD, isWord, isIntg] at h ⊢
        rw [e] at q; exact q
    · walk_at "c"
      rename_i p1 H1 hp1 e0 h1
      refine r_isiTup (hv.ex e0) ?_
      walk_at "w"
      refine if_by (fun h => ?_) (fun h => ?_)
      · obtain ⟨ds, rfl⟩ : ∃ ds, d = .tuple ds := by cases d <;> simp [isTup] at h ⊢
        obtain ⟨a, xs, rfl, ha, hl, hx⟩ := (hv.ex e0).tup_inv
        have hnd : ∀ z ∈ ds, nice 3 z = true := fun z h => nice.tup_in hn h
        walk_at "w"
        refine r_len (.inr (.of ha)) rfl ?_
        walk_at "w"
        by_cases h1 : (1 : Int) ≤ (xs.length : Int)
        · rw [decide_eq_true h1]
          walk_at "w"
          refine if_by (fun h => ?_) (fun h => ?_)
          · have h2 : ds.length ≤ 200 := by have h' := of_decide_eq_true h; omega
            walk_at "w"
            refine k_lcT (.of ha) (lcT (xs := xs) (fun i acc D H' => Ex H1 H' ∧ ∃ zs, acc.length = zs.length ∧ (∀ (j : Nat) (v : V) (d : PyData), acc[j]? = some v → zs[j]? = some d → Dv M H1 v d) ∧ zs = (ds.take i).filter (fun d => !isWord w d)) (fun D H2 _ e _ => ⟨e, [], rfl, by simp, rfl⟩) (fun i acc D H' _ p => .of (p.1 _ _ ha)) (fun i x acc D H' hx' hlt hD hacc p => ?_) (fun acc D H' _ hD hacc p => ?_))
            · obtain ⟨e, zs, hzl, hz, hzs⟩ := p
              obtain ⟨y, hy⟩ := get_of_len hl hx'
              have hi : i < ds.length := (List.getElem?_eq_some_iff.mp hy).1
              have dx := hx i x y hx' hy
              walk_at "w"
              refine ⟨M, x, y, w, rfl, w2, dx.ex e, ?_⟩
              walk_at "w"
              refine if_by (fun h => ?_) (fun h => ?_)
              · walk_at "w"
                refine k_lc hacc hlt (by omega) fun H5 h5 k5 => ⟨e.mut hD k5, zs ++ [y], by simp [hzl], snoc_rel hzl hz dx, ?_⟩
                rw [hzs, filter_take hy, if_pos h]
              · refine k_lcN hacc hlt ⟨e, zs, hzl, hz, ?_⟩
                rw [hzs, filter_take hy, if_neg (by rw [h]; decide), List.append_nil]
            · obtain ⟨e, zs, hzl, hz, hzs⟩ := p
              walk_at "w"
              rename_i p5 H5 hp5 e5 h5
              rw [hl, List.take_length] at hzs
              have hnz : ∀ z ∈ zs, nice 3 z = true := fun z h => by
                rw [hzs] at h
                exact hnd z (List.mem_filter.mp h).1
              have hzl2 : zs.length ≤ 90000 := by
                have := List.length_filter_le (fun d => !isWord w d) ds
                rw [hzs]; omega
              refine r_eqD (.lst (.of (e5 _ _ hacc)) (dpAll_of hzl fun i v d h1 h2 => ((hz i v d h1 h2).ex (e.trans e5)).dp)) (.lst (.of h5) .nil) (nice.shaped (n := 4) (nice.lst hzl2 hnz) (by decide)) (by rfl) ?_
              rw [eqv_nil, hzs, isEmpty_filter]
              have q' := q _ ((e0.trans e).trans e5)
              have hne : ds ≠ [] := by intro z; rw [z] at hl; rw [hl] at h1; exact absurd h1 (by decide)
              rw [show isOfD w 1 (.tuple ds) = ds.all (isWord w) by simp [isOfD, wordsD, h2, hne]] at q'
              exact q'
          · have h2 : ¬ ds.length ≤ 200 := by
              have h' : ¬ ((xs.length : Int) ≤ 200) := of_decide_eq_false h
              omega
            have q' := q _ e0
            rw [show isOfD w 1 (.tuple ds) = false by simp [isOfD, wordsD, h2]] at q'
            exact q'
        · rw [decide_eq_false h1]
          walk_at "w"
          have h0 : ds = [] := by
            have : ds.length = 0 := by omega
            exact List.length_eq_zero_iff.mp this
          subst h0
          exact q _ e0
      · have q' := q _ e0
        have e : isOfD w 1 d = false := by cases d <;> simp [isTup, isOfD] at h ⊢
        rw [e] at q'; exact q'
    all_goals
      have gen : ∀ j, isTup d = false → isOfD w (j + 2) d = false := by
        intro j h
        cases d <;> simp [isTup, isOfD] at h ⊢
      walk_at "c"
      rename_i p1 H1 hp1 e0 h1
      refine r_isiTup (hv.ex e0) ?_
      walk_at "w"
      refine if_by (fun h => ?_) (fun h => ?_)
      · have e : isTup d = false := by simpa using h
        walk_at "w"
        have q' := q _ e0
        rw [gen _ e] at q'
        exact q'
      · obtain ⟨ds0, rfl⟩ : ∃ ds, d = .tuple ds := by cases d <;> simp [isTup] at h ⊢
        obtain ⟨a0, xs0, rfl, ha0, hl0, ht0⟩ := (hv.ex e0).tup_inv
        walk_at "w"
        refine r_len (.inr (.of ha0)) rfl ?_
        walk_at "w"
        refine if_by (fun h => ?_) (fun h => ?_)
        · have e : ds0.length ≠ 2 := by
            have h' : ((xs0.length : Int)) ≠ 2 := by simpa using h
            omega
          walk_at "w"
          have q' := q _ e0
          rcases ds0 with _ | ⟨y, _ | ⟨z, _ | ⟨u, ds⟩⟩⟩
          · exact q'
          · exact q'
          · exact absurd rfl e
          · exact q'
        · have e : ds0.length = 2 := by
            have h' : ((xs0.length : Int)) = 2 := by simpa using h
            omega
          obtain ⟨y, z, rfl⟩ : ∃ y z, ds0 = [y, z] := by
            rcases ds0 with _ | ⟨y, _ | ⟨z, _ | ⟨u, ds⟩⟩⟩
            · cases e
            · cases e
            · exact ⟨_, _, rfl⟩
            · simp at e
          obtain ⟨x1, x2, rfl⟩ : ∃ y z, xs0 = [y, z] := by
            rcases xs0 with _ | ⟨y, _ | ⟨z, _ | ⟨u, ds⟩⟩⟩
            · cases hl0
            · cases hl0
            · exact ⟨_, _, rfl⟩
            · simp at hl0
          have d1 := ht0 0 x1 y rfl rfl
          have d2 := ht0 1 x2 z rfl rfl
          have g2 : ∀ j, isOfD w (j + 2) (.tuple [y, z]) = (strIs y (tagK (j + 2)) && wordsD w 2000 z) := fun _ => rfl
          have n1 := nice.tup_in (n := 3) hn (d := y) (by simp)
          have n2 := nice.tup_in (n := 3) hn (d := z) (by simp)
          walk_at "w"
          refine r_ixT (.of ha0) (v := x1) (by rfl) ?_
          walk_at "c"
          refine ⟨M, x1, _, y, _, rfl, d1, .str _, okD.mono (by decide) (nice.ok n1), fun H2 e2 => ?_⟩
          rw [smD_str]
          replace e0 := e0.trans e2
          walk_at "w"
          refine if_by (fun h => ?_) (fun h => ?_)
          · walk_at "w"
            have q' := q _ e0
            rw [g2] at q'
            have e1 := (Bool.not_eq_true' _).mp h
            have q2 := q'
            first
              | (rw [show tagK (0 + 2) = ("stack" : Str) from rfl, e1] at q2; exact q2)
              | (rw [show tagK (1 + 2) = ("channel" : Str) from rfl, e1] at q2; exact q2)
              | (rw [show tagK (2 + 2) = ("channel" : Str) from rfl, e1] at q2; exact q2)
          · have e1 := (Bool.not_eq_false' _).mp h
            have q : ∀ H', Ex H H' → Q (.bl (wordsD w 2000 z)) H' := fun H' e' => by
              have q2 := q H' e'
              rw [g2] at q2
              first
                | (rw [show tagK (0 + 2) = ("stack" : Str) from rfl, e1] at q2; exact q2)
                | (rw [show tagK (1 + 2) = ("channel" : Str) from rfl, e1] at q2; exact q2)
                | (rw [show tagK (2 + 2) = ("channel" : Str) from rfl, e1] at q2; exact q2)
            walk_at "w"
            refine r_ixT (.of (e2 _ _ ha0)) (v := x2) (by rfl) ?_
            walk_at "w"
            refine r_isiTup (d2.ex e2) ?_
            walk_at "w"
            refine if_by (fun h => ?_) (fun h => ?_)
            · obtain ⟨ds, rfl⟩ : ∃ ds, z = .tuple ds := by cases z <;> simp [isTup] at h ⊢
              obtain ⟨a, xs, rfl, ha, hl, hx⟩ := (d2.ex e2).tup_inv
              have hnd : ∀ z ∈ ds, nice 3 z = true := fun z h => nice.mono (nice.tup_in (n := 2) n2 h) (by decide)
              walk_at "w"
              refine r_ixT (.of (e2 _ _ ha0)) (v := .ref a) (by rfl) ?_
              walk_at "w"
              refine r_len (.inr (.of ha)) rfl ?_
              walk_at "w"
              refine if_by (fun h => ?_) (fun h => ?_)
              · have h2 : ds.length ≤ 2000 := by have h' := of_decide_eq_true h; omega
                walk_at "w"
                refine r_ixT (.of (e2 _ _ ha0)) (v := .ref a) (by rfl) ?_
                refine k_lcT (.of ha) (lcT (xs := xs) (fun i acc D H' => Ex H2 H' ∧ ∃ zs, acc.length = zs.length ∧ (∀ (j : Nat) (v : V) (d : PyData), acc[j]? = some v → zs[j]? = some d → Dv M H2 v d) ∧ zs = (ds.take i).filter (fun d => !isWord w d)) (fun D H2 _ e _ => ⟨e, [], rfl, by simp, rfl⟩) (fun i acc D H' _ p => .of (p.1 _ _ ha)) (fun i x acc D H' hx' hlt hD hacc p => ?_) (fun acc D H' _ hD hacc p => ?_))
                · obtain ⟨e, zs, hzl, hz, hzs⟩ := p
                  obtain ⟨y, hy⟩ := get_of_len hl hx'
                  have hi : i < ds.length := (List.getElem?_eq_some_iff.mp hy).1
                  have dx := hx i x y hx' hy
                  walk_at "w"
                  refine ⟨M, x, y, w, rfl, w2, dx.ex e, ?_⟩
                  walk_at "w"
                  refine if_by (fun h => ?_) (fun h => ?_)
                  · walk_at "w"
                    refine k_lc hacc hlt (by omega) fun H5 h5 k5 => ⟨e.mut hD k5, zs ++ [y], by simp [hzl], snoc_rel hzl hz dx, ?_⟩
                    rw [hzs, filter_take hy, if_pos h]
                  · refine k_lcN hacc hlt ⟨e, zs, hzl, hz, ?_⟩
                    rw [hzs, filter_take hy, if_neg (by rw [h]; decide), List.append_nil]
                · obtain ⟨e, zs, hzl, hz, hzs⟩ := p
                  walk_at "w"
                  rename_i p5 H5 hp5 e5 h5
                  rw [hl, List.take_length] at hzs
                  have hnz : ∀ z ∈ zs, nice 3 z = true := fun z h => by
                    rw [hzs] at h
                    exact hnd z (List.mem_filter.mp h).1
                  have hzl2 : zs.length ≤ 90000 := by
                    have := List.length_filter_le (fun d => !isWord w d) ds
                    rw [hzs]; omega
                  refine r_eqD (.lst (.of (e5 _ _ hacc)) (dpAll_of hzl fun i v d h1 h2 => ((hz i v d h1 h2).ex (e.trans e5)).dp)) (.lst (.of h5) .nil) (nice.shaped (n := 4) (nice.lst hzl2 hnz) (by decide)) (by rfl) ?_
                  rw [eqv_nil, hzs, isEmpty_filter]
                  have q' := q _ ((e0.trans e).trans e5)
                  rw [show wordsD w 2000 (.tuple ds) = ds.all (isWord w) by simp [wordsD, h2]] at q'
                  exact q'
              · have h2 : ¬ ds.length ≤ 2000 := by
                  have h' : ¬ ((xs.length : Int) ≤ 2000) := of_decide_eq_false h
                  omega
                have q' := q _ e0
                rw [show wordsD w 2000 (.tuple ds) = false by simp [wordsD, h2]] at q'
                exact q'
            · have q' := q _ e0
              have e : wordsD w 2000 z = false := by cases z <;> simp [isTup, wordsD] at h ⊢
              rw [e] at q'; exact q'
end
end BkL
namespace BkL
open PySem PySem.Spec L2 BkG
local macro_rules | `(tactic| walk_at "w1") => `(tactic| first
  | with_reducible refine w_seq ?_ | with_reducible refine w_set ?_ | with_reducible refine w_ret ?_ | with_reducible refine w_drop ?_ | with_reducible refine w_ifS ?_
  | with_reducible refine w_next ?_ | with_reducible refine w_c ?_ | ((with_reducible refine' w_var ?hv ?_); (case hv => rfl)) | with_reducible refine w_op ?_ | with_reducible refine w_cons ?_ | with_reducible refine w_nil ?_
  | with_reducible refine w_cb ?_ | with_reducible refine w_call ?_ | with_reducible refine w_tup ?_ | with_reducible refine w_lst ?_ | with_reducible refine w_bm ?_ | with_reducible refine w_bm0 ?_ | with_reducible refine w_un ?_
  | with_reducible refine w_test ?_ | with_reducible refine w_B ?_ | with_reducible refine k_B ?_ | with_reducible refine w_and ?_ | with_reducible refine w_or ?_ | with_reducible refine w_not ?_ | with_reducible refine w_if ?_
  | with_reducible refine w_andV ?_ | with_reducible refine w_orV ?_ | with_reducible refine w_notV ?_ | with_reducible refine k_andV ?_ | with_reducible refine k_orV ?_ | with_reducible refine k_notV ?_
  | with_reducible refine w_chain ?_ | with_reducible refine ex_bl ?_ | with_reducible refine w_isN ?_ | with_reducible refine w_notN ?_ | with_reducible refine w_yes ?_
  | with_reducible refine r_I0 ?_ | with_reducible refine r_U ?_ | with_reducible refine r_eqI ?_ | with_reducible refine r_neI ?_ | with_reducible refine r_eqS ?_ | with_reducible refine r_neS ?_ | with_reducible refine r_eqB ?_ | with_reducible refine r_neB ?_
  | with_reducible refine r_abs ?_ | with_reducible refine r_int ?_ | with_reducible refine r_intB ?_
  | with_reducible refine w_sl ?_ | with_reducible refine w_nop ?_ | with_reducible refine w_part ?_ | with_reducible refine k_part ?_ | with_reducible refine w_revL ?_
  | with_reducible refine w_asg ?_ | with_reducible refine w_gname ?_ | with_reducible refine w_gsub ?_ | with_reducible refine w_gnil ?_ | with_reducible refine w_gcons ?_ | with_reducible refine w_retN ?_ | with_reducible refine w_brk ?_ | with_reducible refine w_cont ?_
  | with_reducible refine w_par ?_ | with_reducible refine w_par3 ?_ | with_reducible refine par_ok ?_ | with_reducible refine par_ok3 ?_ | ((with_reducible refine' w_aug ?hv ?_); (case hv => rfl)) | with_reducible refine i_I ?_
  | with_reducible refine w_forL ?_ | with_reducible refine w_forT ?_ | with_reducible refine w_forR1 ?_ | with_reducible refine w_forE ?_ | with_reducible refine w_lcL ?_ | with_reducible refine w_lcT ?_ | with_reducible refine w_lcR ?_
  | ((with_reducible refine a_tup ?hz ?_); (case hz => exact Nat.le_of_ble_eq_true rfl); intro _ _ _ _ _) | ((with_reducible refine a_lst ?hz ?_); (case hz => exact Nat.le_of_ble_eq_true rfl); intro _ _ _ _ _)
  | ((with_reducible refine k_turn1 ?hw ?_); (case hw => rfl)) | ((with_reducible refine k_turn ?hw ?_); (case hw => rfl)) | with_reducible refine r_isV ?_ | with_reducible refine r_isNotV ?_ | with_reducible refine r_isN ?_ | with_reducible refine r_notN ?_ | with_reducible refine w_lcZ ?_
  | ((with_reducible refine r_I ?hc ?_); (case hc => first | decide | assumption))
  | with_reducible refine w_forET ?_
  | ((with_reducible refine w_dnewK ?_); intro _ _ _ _ _) | with_reducible refine w_dput ?_ | with_reducible refine w_lstRg ?_ | with_reducible refine w_lstZip ?_ | with_reducible refine w_callK ?_
  | (with_reducible refine if_pos' ?_) | (with_reducible refine if_neg' ?_))
local macro_rules | `(tactic| walk_at "w") => `(tactic| repeat (walk_at "w1"))

local macro_rules | `(tactic| walk_at "c") => `(tactic| repeat (first | walk_at "w1" | with_reducible refine k_B ?_ | refine if_dt (by decide +kernel) ?_ | refine if_df (by decide +kernel) ?_ | refine r_in (.inr (.of (by assumption))) (by rfl) (by rfl) ?_ | refine r_in (.inl (.of (by assumption))) (by rfl) (by rfl) ?_))
theorem Deal.mutF {H H' : Hp} {D L T : Addr} {o : HO} (d : Deal H D L) (n1 : T ≠ D) (n2 : T ≠ L) (k : ∀ a o, a ≠ T → H a = some o → H' a = some o) : Deal H' D L := d.kpm k n1 n2
theorem dv_intsT {M : List Addr} {H : Hp} {a : Addr} {ns : List Int} (h : H a = some (.tup (ns.map V.int))) : Dv M H (.ref a) (.tuple (ns.map PyData.int)) := by
  refine .tup h (by simp) fun i v d h1 h2 => ?_
  obtain ⟨x, e1, rfl⟩ := map_some h1
  obtain ⟨y, e2, rfl⟩ := map_some h2
  rw [e1] at e2; cases e2; exact .int x
theorem wordsD_ints {w most : Nat} {ns : List Int} (l : ns.length ≤ most) (h : ∀ n ∈ ns, Wd w n) : wordsD w most (.tuple (ns.map PyData.int)) = true := by
  simp only [wordsD, Bool.and_eq_true, decide_eq_true_eq, List.all_eq_true, List.length_map]
  refine ⟨l, fun d hd => ?_⟩
  obtain ⟨n, hn, rfl⟩ := List.mem_map.mp hd
  exact isWord_of (h n hn)
theorem dv_two {M : List Addr} {H : Hp} {p : Addr} {a b : V} {d e : PyData} (h : H p = some (.tup [a, b])) (ha : Dv M H a d) (hb : Dv M H b e) : Dv M H (.ref p) (.tuple [d, e]) := by
  refine .tup h rfl fun i v d' h1 h2 => ?_
  rcases i with _ | _ | i
  · cases h1; cases h2; exact ha
  · cases h1; cases h2; exact hb
  · cases h1
theorem dv_one {M : List Addr} {H : Hp} {p : Addr} {a : V} {d : PyData} (h : H p = some (.tup [a])) (ha : Dv M H a d) : Dv M H (.ref p) (.tuple [d]) := by
  refine .tup h rfl fun i v d' h1 h2 => ?_
  rcases i with _ | i
  · cases h1; cases h2; exact ha
  · cases h1
theorem dv_lone {M : List Addr} {H : Hp} {p : Addr} {a : V} {d : PyData} (h : H p = some (.lst [a])) (n : p ∉ M) (ha : Dv M H a d) : Dv M H (.ref p) (.list [d]) := by
  refine .lst h n rfl fun i v d' h1 h2 => ?_
  rcases i with _ | i
  · cases h1; cases h2; exact ha
  · cases h1
theorem dv_three {M : List Addr} {H : Hp} {p : Addr} {a b c : V} {d e f : PyData} (h : H p = some (.tup [a, b, c])) (ha : Dv M H a d) (hb : Dv M H b e) (hc : Dv M H c f) : Dv M H (.ref p) (.tuple [d, e, f]) := by
  refine .tup h rfl fun i v d' h1 h2 => ?_
  rcases i with _ | _ | _ | i
  · cases h1; cases h2; exact ha
  · cases h1; cases h2; exact hb
  · cases h1; cases h2; exact hc
  · cases h1
theorem Dv.kpDL {D L : Addr} {M : List Addr} {H H' : Hp} {v : V} {d : PyData} (h : Dv (D :: L :: M) H v d) (k : Kp [D, L] H H') (dl : Deal H D L) : Dv (D :: L :: M) H' v d := h.keep ⟨Kt.of_kp k dl, fun a xs hx n => k a _ hx (fun z => n (by simp only [List.mem_cons, List.not_mem_nil, or_false] at z ⊢; rcases z with z | z <;> simp [z]))⟩
section
variable {P : Program} {w : World} {K : PySem.W.Frag} {mg : Str → Option Value} {base : Heap}
abbrev s_value : Stmt := topS 36
theorem sc_value : FnScope ["deal", "kind", "width", "words", "place"] ["deal", "kind", "width"] (defScope s_value) := ⟨rfl, rfl, rfl, by decide +kernel, rfl, by decide +kernel, by decide +kernel⟩
theorem C_value (F : Fn K mg "_law_value" s_value ["deal", "kind", "width"]) (Z : Bz mg) (CA : Cal P w K mg base 1 "_law_any" spAny) (CWd : Cal P w K mg base 3 "_law_word" spWordD) : Cal P w K mg base 4 "_law_value" spValue := by
  have S := sc_value
  refine F.cal S (fun vs H Q E h => ?_) (fun f cdv A' outer s H vs Q E hr h => ?_)
  · obtain ⟨D, L, k, w, rfl, _⟩ := h; rfl
  · obtain ⟨D, L, k, w, rfl, hk, w1, w2, hd, q⟩ := h
    refine ⟨_, (pss_cons (ps_if (pt_cmpR op_eq (pv 1) pe_str (nomark _)) (pss_one (ps_ret (pe_c0 CWd hr (by omega) (by rfl) (pa_cons (pv 0) (pa_cons (pv 2) pa_nil))))) pss_nil)
      (pss_cons (ps_set (i := 3) S.nd rfl (Or.inl rfl) (pe_callTy (call_tuple_of) (by rfl) Z.tuple (by decide +kernel) (pa_cons (pe_lc (own := [("place", 4)]) (g := (gName 4)) (tt := tYes) rfl S.nd (pi_range1 (by rfl) Z.range (pa_cons (pe_c0 CA hr (by omega) (by rfl) (pa_cons (pv 0) (pa_cons pe_int pa_nil))) pa_nil)) (blkOk_by (N := ["deal", "kind", "width", "words", "place"]) (sc := defScope s_value) (by decide +kernel)) (fun _ _ _ _ _ => (pg_name (i := 4) S.nd rfl (Or.inl rfl))) (fun _ _ _ _ _ => pts_nil) (fun _ _ _ _ _ => (pe_c0 CWd hr (by omega) (by rfl) (pa_cons (pv 0) (pa_cons (pv 2) pa_nil))))) pa_nil)))
      (pss_cons (ps_if (pt_cmpR op_in_seq (pv 1) (pe_lst (pa_cons pe_str (pa_cons pe_str (pa_cons pe_str pa_nil)))) (by rfl)) (pss_one (ps_ret (pe_tup (pa_cons (pe_ifExp (pt_cmpR op_eq (pv 1) pe_str (nomark _)) pe_str pe_str) (pa_cons (pv 3) pa_nil))))) pss_nil)
      (pss_one (ps_ret (pe_ifExp (pt_cmpR (op_neD hr.units) (pv 3) (pe_tup pa_nil) (nomark _)) (pv 3) (pe_tup (pa_cons (pe_c0 CWd hr (by omega) (by rfl) (pa_cons (pv 0) (pa_cons (pv 2) pa_nil))) pa_nil)))))))), ?_⟩
    try dsimp only [cxOf, Cx.nox, Cx.wish]
    by_cases hk0 : k = 0
    · subst hk0
      walk_at "c"
      exact ⟨D, L, w, rfl, w1, w2, hd, fun z H' hz d' k' => q _ _ _ (fun _ => .int z) (isWord_of hz) (nice_word (isWord_of hz)) d' k'⟩
    have hkn : (decide (V.str (kindS k) = V.str "word")) = false := by
      rcases cases5 hk with rfl | rfl | rfl | rfl | rfl
      · exact absurd rfl hk0
      all_goals decide +kernel
    walk_at "w"
    have hkn2 : (decide (kindS k = ("word" : Str))) = false := by
      rcases cases5 hk with rfl | rfl | rfl | rfl | rfl
      · exact absurd rfl hk0
      all_goals decide +kernel
    refine if_df hkn2 ?_
    walk_at "w"
    refine ⟨D, L, 5, rfl, hd, by decide, by decide +kernel, fun z H1 z0 z1 d1 k1 => ?_⟩
    refine a_lcR (n := z.toNat) (by omega) (by omega) (lcR (fun i acc D' H' => Deal H' D L ∧ Kp [D, L] H1 H' ∧ ∃ ns : List Int, acc = ns.map V.int ∧ ns.length = i ∧ ∀ n ∈ ns, Wd w n) (fun D' H2 _ e _ => ⟨d1.keep e, .of e, [], rfl, rfl, by simp⟩) (fun i acc D' H' hi hlt hD hacc p => ?_) (fun acc D' H' _ hD hacc p => ?_))
    · obtain ⟨d', k', ns, rfl, hl, hw⟩ := p
      obtain ⟨n1, n2⟩ := d1.fresh hD
      walk_at "w"
      refine ⟨D, L, w, rfl, w1, w2, d', fun y H3 hy d3 k3 => ?_⟩
      refine k_lc (k3.at hacc (by simp [n1, n2])) hlt (by omega) fun H5 h5 k5 => ⟨d3.kpm k5 n1 n2, (k'.trans k3).mut hD k5, ns ++ [y], by simp, by simp [hl], fun n hn => ?_⟩
      rcases List.mem_append.mp hn with h | h
      · exact hw n h
      · rw [List.mem_singleton.mp h]; exact hy
    · obtain ⟨d', k', ns, rfl, hl, hw⟩ := p
      refine ⟨D', _, rfl, .inl ⟨.of hacc, fun p hp => ?_⟩⟩
      have e2 := Ex.new (o := .tup (ns.map V.int)) hp
      have h2 : upd H' p (.tup (ns.map V.int)) p = _ := upd_same
      generalize upd H' p (.tup (ns.map V.int)) = H2 at e2 h2 ⊢
      have d2 := d'.keep e2
      have k2 := (k1.trans k').ex e2
      have hl5 : ns.length ≤ 5 := by omega
      have nin : nice 1 (.tuple (ns.map PyData.int)) = true := nice_words (most := 2000) (wordsD_ints (by omega) hw) (by decide)
      rcases cases5 hk with rfl | rfl | rfl | rfl | rfl
      · exact absurd rfl hk0
      · walk_at "c"
        rename_i p3 H3 hp3 e3 h3 p4 H4 hp4 e4 h4
        have e34 := e3.trans e4
        refine r_neD2 (M := []) (dv_intsT (e34 _ _ h2)) (dv_nilT h4) (nice.mono nin (by decide)) (by decide +kernel) ?_
        rw [eqv_nilT]
        have d4 := d2.keep e34
        have k4 := k2.ex e34
        walk_at "w"
        refine if_by (fun h => ?_) (fun h => ?_)
        · walk_at "w"
          refine q _ _ _ (fun _ => dv_intsT (e34 _ _ h2)) ?_ (nice.mono nin (by decide)) d4 k4
          have hw2 := wordsD_ints (most := 200) (by omega) hw
          have h' : (List.map PyData.int ns).isEmpty = false := by simpa using h
          show (wordsD w 200 (.tuple (ns.map PyData.int)) && !(ns.map PyData.int).isEmpty) = true
          rw [hw2, h']; rfl
        · walk_at "w"
          refine ⟨D, L, w, rfl, w1, w2, d4, fun y H5 hy d5 k5 => ?_⟩
          refine a_tup (by simp) fun p6 H6 hp6 e6 h6 => ?_
          refine q _ _ _ (fun _ => dv_intsT (ns := [y]) h6) ?_ (nice_words (most := 2000) (wordsD_ints (ns := [y]) (by simp) (by simpa using hy)) (by decide)) (d5.keep e6) ((k4.trans k5).ex e6)
          have hw2 := wordsD_ints (most := 200) (ns := [y]) (by simp) (by simpa using hy)
          show (wordsD w 200 (.tuple ([y].map PyData.int)) && !([y].map PyData.int).isEmpty) = true
          rw [hw2]; rfl
      all_goals
        walk_at "c"
        rename_i p3 H3 hp3 e3 h3 p4 H4 hp4 e4 h4
        have e34 := e3.trans e4
        have hw2 := wordsD_ints (most := 2000) (by omega) hw
        refine q _ _ _ (fun _ => dv_two h4 (.str _) (dv_intsT (e34 _ _ h2))) ?_ (nice.tup (n := 2) (by simp) fun d hd => ?_) (d2.keep e34) (k2.ex e34)
        · exact hw2
        · simp only [List.mem_cons, List.not_mem_nil, or_false] at hd
          rcases hd with rfl | rfl
          · decide +kernel
          · exact nice.mono nin (by decide)
abbrev s_near : Stmt := topS 39
theorem sc_near : FnScope ["deal", "value", "width", "size", "some"] ["deal", "value", "width"] (defScope s_near) := ⟨rfl, rfl, rfl, by decide +kernel, rfl, by decide +kernel, by decide +kernel⟩
theorem C_near (F : Fn K mg "_law_near" s_near ["deal", "value", "width"]) (Z : Bz mg) (CR : Cal P w K mg base 1 "_law_round" spRound) (CO : Cal P w K mg base 2 "_law_of" spOf) : Cal P w K mg base 3 "_law_near" spNear := by
  have S := sc_near
  refine F.cal S (fun vs H Q E h => ?_) (fun f cdv A' outer s H vs Q E hr h => ?_)
  · obtain ⟨D, L, M, v, d, w, rfl, _⟩ := h; rfl
  · obtain ⟨D, L, M, v, d, w, rfl, w2, hM, hv, hn, hd, q⟩ := h
    refine ⟨_, (pss_cons (ps_set (i := 3) S.nd rfl (Or.inl rfl) (pe_c0 CR hr (by omega) (by rfl) (pa_cons (pv 2) pa_nil)))
      (pss_cons (ps_set (i := 4) S.nd rfl (Or.inl rfl) (pe_lst (pa_cons pe_non (pa_cons pe_bl (pa_cons pe_str (pa_cons (pe_tup pa_nil) (pa_cons (pe_lst (pa_cons pe_int pa_nil)) (pa_cons (pe_tup (pa_cons (pv 3) pa_nil)) (pa_cons (pe_tup (pa_cons pe_str (pa_cons (pe_lst (pa_cons pe_int pa_nil)) pa_nil))) (pa_cons (pe_tup (pa_cons pe_str (pa_cons (pe_tup (pa_cons (pv 3) pa_nil)) pa_nil))) (pa_cons (pe_tup (pa_cons pe_str (pa_cons (pe_tup (pa_cons pe_int pa_nil)) (pa_cons pe_int pa_nil)))) (pa_cons (pe_tup (pa_cons pe_str pa_nil)) (pa_cons (pe_tup (pa_cons pe_str (pa_cons (pe_tup pa_nil) pa_nil))) (pa_cons (pe_tup (pa_cons pe_int (pa_cons pe_non pa_nil))) (pa_cons (pe_tup (pa_cons pe_str (pa_cons (pe_tup (pa_cons pe_int (pa_cons pe_bl pa_nil))) pa_nil))) (pa_cons (pe_un un_neg pe_int) (pa_cons (pv 3) pa_nil)))))))))))))))))
      (pss_one (ps_ret (pe_c0 CO hr (by omega) (by rfl) (pa_cons (pv 0) (pa_cons (pe_op op_cat (pv 4) (pe_lst (pa_cons (pv 1) (pa_cons (pe_tup (pa_cons (pv 1) pa_nil)) (pa_cons (pe_lst (pa_cons (pv 1) pa_nil)) pa_nil))))) pa_nil))))))), ?_⟩
    try dsimp only [cxOf, Cx.nox, Cx.wish]
    walk_at "w"
    refine ⟨w, rfl, w2, ?_⟩
    walk_at "w"
    rename_i t1 J1 ht1 f1 g1 t2 J2 ht2 f2 g2 t3 J3 ht3 f3 g3 t4 J4 ht4 f4 g4 t5 J5 ht5 f5 g5 t6 J6 ht6 f6 g6 t7 J7 ht7 f7 g7 t8 J8 ht8 f8 g8 t9 J9 ht9 f9 g9 t10 J10 ht10 f10 g10 t11 J11 ht11 f11 g11 t12 J12 ht12 f12 g12 t13 J13 ht13 f13 g13 t14 J14 ht14 f14 g14 t15 J15 ht15 f15 g15 t16 J16 ht16 f16 g16 t17 J17 ht17 f17 g17 t18 J18 ht18 f18 g18 t19 J19 ht19 f19 g19
    refine r_cat (f19 _ _ (f18 _ _ (f17 _ _ g16))) g19 (by simp) fun t20 J20 ht20 f20 g20 => ?_
    have T20 : Ex J20 J20 := fun _ _ h => h
    have T19 : Ex J19 J20 := f20.trans T20
    have T18 : Ex J18 J20 := f19.trans T19
    have T17 : Ex J17 J20 := f18.trans T18
    have T16 : Ex J16 J20 := f17.trans T17
    have T15 : Ex J15 J20 := f16.trans T16
    have T14 : Ex J14 J20 := f15.trans T15
    have T13 : Ex J13 J20 := f14.trans T14
    have T12 : Ex J12 J20 := f13.trans T13
    have T11 : Ex J11 J20 := f12.trans T12
    have T10 : Ex J10 J20 := f11.trans T11
    have T9 : Ex J9 J20 := f10.trans T10
    have T8 : Ex J8 J20 := f9.trans T9
    have T7 : Ex J7 J20 := f8.trans T8
    have T6 : Ex J6 J20 := f7.trans T7
    have T5 : Ex J5 J20 := f6.trans T6
    have T4 : Ex J4 J20 := f5.trans T5
    have T3 : Ex J3 J20 := f4.trans T4
    have T2 : Ex J2 J20 := f3.trans T3
    have T1 : Ex J1 J20 := f2.trans T2
    have E1 : Ex H J1 := f1
    have E2 : Ex H J2 := E1.trans f2
    have E3 : Ex H J3 := E2.trans f3
    have E4 : Ex H J4 := E3.trans f4
    have E5 : Ex H J5 := E4.trans f5
    have E6 : Ex H J6 := E5.trans f6
    have E7 : Ex H J7 := E6.trans f7
    have E8 : Ex H J8 := E7.trans f8
    have E9 : Ex H J9 := E8.trans f9
    have E10 : Ex H J10 := E9.trans f10
    have E11 : Ex H J11 := E10.trans f11
    have E12 : Ex H J12 := E11.trans f12
    have E13 : Ex H J13 := E12.trans f13
    have E14 : Ex H J14 := E13.trans f14
    have E15 : Ex H J15 := E14.trans f15
    have E16 : Ex H J16 := E15.trans f16
    have E17 : Ex H J17 := E16.trans f17
    have E18 : Ex H J18 := E17.trans f18
    have E19 : Ex H J19 := E18.trans f19
    have E20 : Ex H J20 := E19.trans f20
    obtain ⟨m2, m2'⟩ := (hd.keep E1).fresh ht2
    have mm2 : t2 ∉ M := fun z => hM _ z (E1.fresh ht2)
    obtain ⟨m4, m4'⟩ := (hd.keep E3).fresh ht4
    have mm4 : t4 ∉ M := fun z => hM _ z (E3.fresh ht4)
    obtain ⟨m18, m18'⟩ := (hd.keep E17).fresh ht18
    have mm18 : t18 ∉ M := fun z => hM _ z (E17.fresh ht18)
    obtain ⟨m20, m20'⟩ := (hd.keep E19).fresh ht20
    have d20 := hd.keep E20
    walk_at "w"
    refine ⟨D, L, t20, _, rfl, d20, g20, m20, m20', by simp, by simp, fun i x H' hx d' k' => ?_⟩
    have kk : Kp [D, L] H H' := k'.pre E20
    suffices hs : ∃ dx, Dv (D :: L :: M) J20 x dx ∧ nice 4 dx = true by
      obtain ⟨dx, h1, h2⟩ := hs
      exact q _ _ _ (Dv.kpDL h1 k' d20) h2 d' kk
    have hv20 : Dv (D :: L :: M) J20 v d := hv.ex E20
    have hm := List.mem_of_getElem? hx
    simp only [List.mem_append, List.mem_cons, List.not_mem_nil, or_false] at hm
    have nint : ∀ z : Int, nice 2 (.int z) = true := fun z => nice.mk rfl rfl
    have nint1 : ∀ d ∈ [PyData.int (2 ^ w)], nice 3 d = true := fun d hd => by rw [List.mem_singleton.mp hd]; exact nice.mono (nint _) (by decide)
    have nst : nice 4 (.tuple [.str "stack", .tuple [.int (2 ^ w)]]) = true := nice.tup (n := 3) (by simp) fun d hd => by
      simp only [List.mem_cons, List.not_mem_nil, or_false] at hd
      rcases hd with rfl | rfl
      · decide +kernel
      · exact nice.tup (n := 2) (by simp) fun d hd => by rw [List.mem_singleton.mp hd]; exact nint _
    rcases hm with (rfl | rfl | rfl | rfl | rfl | rfl | rfl | rfl | rfl | rfl | rfl | rfl | rfl | rfl | rfl) | (rfl | rfl | rfl)
    · exact ⟨_, .non, by decide +kernel⟩
    · exact ⟨_, .bl _, by decide +kernel⟩
    · exact ⟨_, .str _, by decide +kernel⟩
    · exact ⟨_, dv_nilT (T1 _ _ g1), by decide +kernel⟩
    · exact ⟨_, dv_lone (T2 _ _ g2) (by simp [m2, m2', mm2]) (.int 1), by decide +kernel⟩
    · exact ⟨_, dv_one (T3 _ _ g3) (.int _), nice.tup (n := 3) (by simp) nint1⟩
    · exact ⟨_, dv_two (T5 _ _ g5) (.str _) (dv_lone (T4 _ _ g4) (by simp [m4, m4', mm4]) (.int 0)), by decide +kernel⟩
    · exact ⟨_, dv_two (T7 _ _ g7) (.str _) (dv_one (T6 _ _ g6) (.int _)), nst⟩
    · exact ⟨_, dv_three (T9 _ _ g9) (.str _) (dv_one (T8 _ _ g8) (.int _)) (.int _), by decide +kernel⟩
    · exact ⟨_, dv_one (T10 _ _ g10) (.str _), by decide +kernel⟩
    · exact ⟨_, dv_two (T12 _ _ g12) (.str _) (dv_nilT (T11 _ _ g11)), by decide +kernel⟩
    · exact ⟨_, dv_two (T13 _ _ g13) (.int _) .non, by decide +kernel⟩
    · exact ⟨_, dv_two (T15 _ _ g15) (.str _) (dv_two (T14 _ _ g14) (.int _) (.bl _)), by decide +kernel⟩
    · exact ⟨_, .int _, by decide +kernel⟩
    · exact ⟨_, .int _, nice.mk (by simp [okD]) rfl⟩
    · exact ⟨_, hv20, nice.mono hn (by decide)⟩
    · exact ⟨_, dv_one (T17 _ _ g17) hv20, nice.tup (n := 3) (by simp) (by simpa using hn)⟩
    · exact ⟨_, dv_lone (T18 _ _ g18) (by simp [m18, m18', mm18]) hv20, nice.lst (n := 3) (by simp) (by simpa using hn)⟩
end
end BkL
namespace BkL
open PySem PySem.Spec L2 BkG
abbrev s_heard : Stmt := topS 38
theorem sc_heard : FnScope ["work", "wrong"] ["work"] (defScope s_heard) := ⟨rfl, rfl, rfl, by decide +kernel, rfl, by decide +kernel, by decide +kernel⟩
theorem heard_gives {X : Cx} {cIW fIW cIQ fIQ cRe fRe : Addr} (T1 : PySem.BkErr.ErrTxt X.prog X.K X.mg "InvalidWord" cIW fIW) (T2 : PySem.BkErr.ErrTxt X.prog X.K X.mg "InvalidQuestion" cIQ fIQ) (T3 : PySem.BkErr.ErrTxt X.prog X.K X.mg "Refused" cRe fRe)
    (x21 : PySem.W.exmOne X.K (.ref cIQ) (.ref cIW) = some false) (x31 : PySem.W.exmOne X.K (.ref cRe) (.ref cIW) = some false) (x32 : PySem.W.exmOne X.K (.ref cRe) (.ref cIQ) = some false) {q : Str} {g : Addr} {cdg : Value} :
    LamX.GivesTo X ["work", "wrong"] "_law_heard" (defScope s_heard) g cdg (defBody s_heard) "work" q (TTHeard X.prog X.K X.mg heardTags) := by
  intro f c' s H Q tl act hc h
  refine ⟨_, pss_one (ps_try_manyA (X := (cxOf C8.CX0 X.prog X.w X.K X.mg X.base ["work", "wrong"] "_law_heard" (defScope s_heard) g cdg X.A X.stack s H C8.E0).nox)
      (l := [(.ref cIW, 1, fun a cls d => tRet (tTup (tCons (tC (.str "word")) (tCons (tAtA X.prog X.K X.mg a cls d (tVar 1)) tNil)))), (.ref cIQ, 1, fun a cls d => tRet (tTup (tCons (tC (.str "question")) (tCons (tAtA X.prog X.K X.mg a cls d (tVar 1)) tNil)))), (.ref cRe, 1, fun a cls d => tRet (tTup (tCons (tC (.str "refused")) (tCons (tAtA X.prog X.K X.mg a cls d (tVar 1)) tNil))))])
      (tb := fun W D σ H => ∃ Ech : XK, (∀ cls d σ' H', Ech cls d H' → W cls d σ' H') ∧ σ[0]? = some (some (.ref f)) ∧ H c' = some (LamX.CodeO c' q) ∧ tl Ech H (fun v H2 => aTup D.rt [.str "told", v] H2))
      rfl rfl (show (["work", "wrong"] : List Str).Nodup by decide) LamX.takes0 (fun W pn xe tk _ => ?_)
      (HdsA.cons (i := 1) rfl rfl ⟨rfl, by decide, .inl T1.gC⟩ (fun a oe cls d pn hz hf => pss_one (ps_ret (pe_tup (pa_cons pe_str (pa_cons (pe_atErr hz hf (pv 1)) pa_nil)))))
        (HdsA.cons (i := 1) rfl rfl ⟨rfl, by decide, .inl T2.gC⟩ (fun a oe cls d pn hz hf => pss_one (ps_ret (pe_tup (pa_cons pe_str (pa_cons (pe_atErr hz hf (pv 1)) pa_nil)))))
          (HdsA.cons (i := 1) rfl rfl ⟨rfl, by decide, .inl T3.gC⟩ (fun a oe cls d pn hz hf => pss_one (ps_ret (pe_tup (pa_cons pe_str (pa_cons (pe_atErr hz hf (pv 1)) pa_nil))))) HdsA.nil)))), ?_⟩
  · refine ⟨fun pins s' σ H' D I h' => ?_⟩
    obtain ⟨Ech, hW, h1, h2, h3⟩ := h'
    exact (pss_one (ps_ret (pe_tup (pa_cons pe_str (pa_cons (act W pn xe Ech _ _ tk hW) pa_nil))))).run pins s' σ H' D I ⟨h1, h2, h3⟩
  · refine ⟨EHeard X.prog X.K X.mg heardTags Q, fun cls d σ' H' hE => ?_, rfl, hc, h⟩
    obtain ⟨nm, tag, C, fI, dd, v, hm, T, rfl, rfl, hx, hq⟩ := hE
    simp only [heardTags, List.mem_cons, List.not_mem_nil, or_false, Prod.mk.injEq] at hm
    have at_ : ∀ (a : Addr) (σ2 : L2.St), σ2[1]? = some (some (.ref a)) → ∀ tg, tg = tag → tRet (tTup (tCons (tC (.str tg)) (tCons (tAtA X.prog X.K X.mg a (.ref C) (some dd) (tVar 1)) tNil))) (dAs 1 { nx := fun _ H' => Q .non H', rt := Q }) σ2 H' := fun a σ2 hs tg e => by
      subst e
      exact ⟨.ref a, hs, rfl, nm, C, fI, dd, v, T, rfl, rfl, hx, hq⟩
    rcases hm with ⟨rfl, rfl⟩ | ⟨rfl, rfl⟩ | ⟨rfl, rfl⟩
    · have e : C = cIW := by have := T.gC.symm.trans T1.gC; cases this; rfl
      subst e
      exact ⟨true, T1.te, fun _ a _ hl => at_ a _ (List.getElem?_set_self (by rw [hl]; exact (show 1 < 2 by decide))) _ rfl, fun h => by cases h⟩
    · have e : C = cIQ := by have := T.gC.symm.trans T2.gC; cases this; rfl
      subst e
      exact ⟨false, x21, (fun h => by cases h), fun _ => ⟨true, T2.te, fun _ a _ hl => at_ a _ (List.getElem?_set_self (by rw [hl]; exact (show 1 < 2 by decide))) _ rfl, fun h => by cases h⟩⟩
    · have e : C = cRe := by have := T.gC.symm.trans T3.gC; cases this; rfl
      subst e
      exact ⟨false, x31, (fun h => by cases h), fun _ => ⟨false, x32, (fun h => by cases h), fun _ => ⟨true, T3.te, fun _ a _ hl => at_ a _ (List.getElem?_set_self (by rw [hl]; exact (show 1 < 2 by decide))) _ rfl, fun h => by cases h⟩⟩⟩
theorem sc_heard' : FnScope ["work", "wrong"] ["work"] (defScope s_heard) := sc_heard
/-- _law_heard(lambda: body) -/
theorem pe_heard {X : Cx} {cIW fIW cIQ fIQ cRe fRe c P' : Addr} {k : Nat} {params : Arguments} {body : Expr} {scope : Scope} {t : XK → TE} {p lpos pos : Pos} (FH : Fn X.K X.mg "_law_heard" s_heard ["work"]) (T1 : PySem.BkErr.ErrTxt X.prog X.K X.mg "InvalidWord" cIW fIW) (T2 : PySem.BkErr.ErrTxt X.prog X.K X.mg "InvalidQuestion" cIQ fIQ) (T3 : PySem.BkErr.ErrTxt X.prog X.K X.mg "Refused" cRe fRe)
    (x21 : PySem.W.exmOne X.K (.ref cIQ) (.ref cIW) = some false) (x31 : PySem.W.exmOne X.K (.ref cRe) (.ref cIW) = some false) (x32 : PySem.W.exmOne X.K (.ref cRe) (.ref cIQ) = some false) (TB : LamX.TabB X.base X.mg c P') (hcode : X.env.code = .ref c) (hr : Room (k + 2) X.A) (hg : Gl X "_law_heard")
    (L : LamX.LamS X.env.scope scope) (hdef : defaultsOf params X.env = ([], [])) (hbind : ∀ (q : Str) (cl : List (Str × Addr)) (pm cv ctv : Value), bindArgs (PySem.W.kla_fn "<lambda>" q params body scope cl pm cv ctv) ⟨[], []⟩ = pure [])
    (hbody : ∀ (A : Around) (outer : List Env) (s : Shared) (H : Hp) (E : XK) (f c' : Addr), Room k (A.deeper (LamX.lamEnv X scope s.heap.objs.size f c')) → PE (LamX.lamCx X A outer s H E scope f c') body (t E)) :
    PE X (.Call (.Name "_law_heard" p) [.Lambda params body scope lpos] [] pos) (LamX.tLam [(P', X.env.qual ++ "<lambda>")] (TTHeard X.prog X.K X.mg heardTags) t) := by
  obtain ⟨g, fd, F1, hm, hb, _⟩ := FH.ex
  have hk := F1.kp
  obtain ⟨oc, od, kV, doc, pm, an, cdv, ct, osl, rfl, lk, hcd⟩ := F1.ex
  exact LamX.pe_lamcall hg hm hk lk hcd hb sc_heard' rfl (Or.inl rfl) (heard_gives T1 T2 T3 x21 x31 x32) TB hcode (by simp) (fun q hq _ => by rw [List.mem_singleton.mp hq]) hr L hdef hbind hbody
end BkL
namespace BkL
open PySem PySem.Spec L2 BkG
local macro_rules | `(tactic| walk_at "w1") => `(tactic| first
  | with_reducible refine w_seq ?_ | with_reducible refine w_set ?_ | with_reducible refine w_ret ?_ | with_reducible refine w_drop ?_ | with_reducible refine w_ifS ?_
  | with_reducible refine w_next ?_ | with_reducible refine w_c ?_ | ((with_reducible refine' w_var ?hv ?_); (case hv => rfl)) | with_reducible refine w_op ?_ | with_reducible refine w_cons ?_ | with_reducible refine w_nil ?_
  | with_reducible refine w_cb ?_ | with_reducible refine w_call ?_ | with_reducible refine w_tup ?_ | with_reducible refine w_lst ?_ | with_reducible refine w_bm ?_ | with_reducible refine w_bm0 ?_ | with_reducible refine w_un ?_
  | with_reducible refine w_test ?_ | with_reducible refine w_B ?_ | with_reducible refine k_B ?_ | with_reducible refine w_and ?_ | with_reducible refine w_or ?_ | with_reducible refine w_not ?_ | with_reducible refine w_if ?_
  | with_reducible refine w_andV ?_ | with_reducible refine w_orV ?_ | with_reducible refine w_notV ?_ | with_reducible refine k_andV ?_ | with_reducible refine k_orV ?_ | with_reducible refine k_notV ?_
  | with_reducible refine w_chain ?_ | with_reducible refine ex_bl ?_ | with_reducible refine w_isN ?_ | with_reducible refine w_notN ?_ | with_reducible refine w_yes ?_
  | with_reducible refine r_I0 ?_ | with_reducible refine r_U ?_ | with_reducible refine r_eqI ?_ | with_reducible refine r_neI ?_ | with_reducible refine r_eqS ?_ | with_reducible refine r_neS ?_ | with_reducible refine r_eqB ?_ | with_reducible refine r_neB ?_
  | with_reducible refine r_abs ?_ | with_reducible refine r_int ?_ | with_reducible refine r_intB ?_
  | with_reducible refine w_sl ?_ | with_reducible refine w_nop ?_ | with_reducible refine w_part ?_ | with_reducible refine k_part ?_ | with_reducible refine w_revL ?_
  | with_reducible refine w_asg ?_ | with_reducible refine w_gname ?_ | with_reducible refine w_gsub ?_ | with_reducible refine w_gnil ?_ | with_reducible refine w_gcons ?_ | with_reducible refine w_retN ?_ | with_reducible refine w_brk ?_ | with_reducible refine w_cont ?_
  | with_reducible refine w_par ?_ | with_reducible refine w_par3 ?_ | with_reducible refine par_ok ?_ | with_reducible refine par_ok3 ?_ | ((with_reducible refine' w_aug ?hv ?_); (case hv => rfl)) | with_reducible refine i_I ?_
  | with_reducible refine w_forL ?_ | with_reducible refine w_forT ?_ | with_reducible refine w_forR1 ?_ | with_reducible refine w_forE ?_ | with_reducible refine w_lcL ?_ | with_reducible refine w_lcT ?_ | with_reducible refine w_lcR ?_
  | ((with_reducible refine a_tup ?hz ?_); (case hz => exact Nat.le_of_ble_eq_true rfl); intro _ _ _ _ _) | ((with_reducible refine a_lst ?hz ?_); (case hz => exact Nat.le_of_ble_eq_true rfl); intro _ _ _ _ _)
  | ((with_reducible refine k_turn1 ?hw ?_); (case hw => rfl)) | ((with_reducible refine k_turn ?hw ?_); (case hw => rfl)) | with_reducible refine r_isV ?_ | with_reducible refine r_isNotV ?_ | with_reducible refine r_isN ?_ | with_reducible refine r_notN ?_ | with_reducible refine w_lcZ ?_
  | ((with_reducible refine r_I ?hc ?_); (case hc => first | decide | assumption))
  | with_reducible refine w_forET ?_
  | ((with_reducible refine w_dnewK ?_); intro _ _ _ _ _) | with_reducible refine w_dput ?_ | with_reducible refine w_lstRg ?_ | with_reducible refine w_lstZip ?_ | with_reducible refine w_callK ?_
  | (with_reducible refine if_pos' ?_) | (with_reducible refine if_neg' ?_))
local macro_rules | `(tactic| walk_at "w") => `(tactic| repeat (walk_at "w1"))

local macro_rules | `(tactic| walk_at "c") => `(tactic| repeat (first | walk_at "w1" | with_reducible refine k_B ?_ | refine if_dt (by decide +kernel) ?_ | refine if_df (by decide +kernel) ?_ | refine r_in (.inr (.of (by assumption))) (by rfl) (by rfl) ?_ | refine r_in (.inl (.of (by assumption))) (by rfl) (by rfl) ?_))
theorem w_heard {P : Program} {K : PySem.W.Frag} {mg : Str → Option Value} {L : List (Str × Str)} {tl : XK → Hp → VK → Prop} {H : Hp} {Q : VK} (h : tl (EHeard P K mg L Q) H (fun v H2 => aTup Q [.str "told", v] H2)) : TTHeard P K mg L tl H Q := h
theorem dv_pair {M : List Addr} {H : Hp} {p : Addr} {s : Str} {z : Int} (h : H p = some (.tup [.str s, .int z])) : Dv M H (.ref p) (.tuple [.str s, .int z]) := by
  refine .tup h rfl fun i v d h1 h2 => ?_
  rcases i with _ | _ | i
  · cases h1; cases h2; exact .str _
  · cases h1; cases h2; exact .int _
  · cases h1
theorem Dv.extN {M : List Addr} {H H' : Hp} {v : V} {d : PyData} (h : Dv M H v d) (e : LamX.ExtN H H') : Dv M H' v d := h.keep ⟨fun a xs hx => e a _ hx (fun _ z => by cases z), fun a xs hx _ => e a _ hx (fun _ z => by cases z)⟩
theorem kt_extN {H H' : Hp} (e : LamX.ExtN H H') : Kt H H' := fun a xs h => e a _ h (fun _ z => by cases z)
def kindV (k : Nat) : V := .str (kindS k)
theorem dv_rep {M : List Addr} {H : Hp} {p : Addr} {n : Nat} {z : Int} (h : H p = some (.tup (List.replicate n (.int z)))) : Dv M H (.ref p) (.tuple ((List.replicate n z).map PyData.int)) := dv_intsT (ns := List.replicate n z) (by rw [h]; simp)
theorem nice_rep {n k : Nat} {z : Int} (h : n ≤ 90000) : nice (k + 1) (.tuple ((List.replicate n z).map PyData.int)) = true := nice.tup (by simpa using h) fun d hd => by
  obtain ⟨x, _, rfl⟩ := List.mem_map.mp hd
  exact nice.mk (by cases k <;> rfl) rfl
theorem nice_kinds {ks : List Nat} {n : Nat} (h : ∀ k ∈ ks, k < 5) : ∀ d ∈ kindsT ks, nice n d = true := fun d hd => by
  obtain ⟨k, hk, rfl⟩ := List.mem_map.mp hd
  refine nice.mk (okD_str _ _) ?_
  rcases cases5 (h k hk) with rfl | rfl | rfl | rfl | rfl <;> decide +kernel
theorem dv_kinds {M : List Addr} {H : Hp} {ks : List Nat} : ∀ (i : Nat) (v : V) (d : PyData), (ks.map kindV)[i]? = some v → (kindsT ks)[i]? = some d → Dv M H v d := fun i v d h1 h2 => by
  obtain ⟨x, e1, rfl⟩ := map_some h1
  obtain ⟨y, e2, rfl⟩ := kindsT_at h2
  rw [e1] at e2; cases e2; exact .str _
theorem dv_kindsL {H : Hp} {p : Addr} {ks : List Nat} (h : H p = some (.lst (ks.map kindV))) : Dv [] H (.ref p) (.list (kindsT ks)) := .lst h (by simp) (by simp [kindsT]) dv_kinds
theorem dv_kindsT {M : List Addr} {H : Hp} {p : Addr} {ks : List Nat} (h : H p = some (.tup (ks.map kindV))) : Dv M H (.ref p) (.tuple (kindsT ks)) := .tup h (by simp [kindsT]) dv_kinds
theorem nice_two {n : Nat} {d e : PyData} (h1 : nice n d = true) (h2 : nice n e = true) : ∀ x ∈ [d, e], nice n x = true := fun x hx => by
  simp only [List.mem_cons, List.not_mem_nil, or_false] at hx
  rcases hx with rfl | rfl
  · exact h1
  · exact h2
theorem kindS_inj {i j : Nat} (hi : i < 5) (hj : j < 5) (h : kindS i = kindS j) : i = j := by
  rcases cases5 hi with rfl | rfl | rfl | rfl | rfl <;> rcases cases5 hj with rfl | rfl | rfl | rfl | rfl <;> first | rfl | exact absurd h (by decide +kernel)
theorem kindsT_inj : ∀ {ks js : List Nat}, (∀ k ∈ ks, k < 5) → (∀ k ∈ js, k < 5) → kindsT ks = kindsT js → ks = js
  | [], [], _, _, _ => rfl
  | [], _ :: _, _, _, h => by cases h
  | _ :: _, [], _, _, h => by cases h
  | k :: ks, j :: js, hk, hj, h => by
    have h' : PyData.str (kindS k) :: kindsT ks = PyData.str (kindS j) :: kindsT js := h
    injection h' with h1 h2
    injection h1 with h3
    rw [kindS_inj (hk k (by simp)) (hj j (by simp)) h3, kindsT_inj (fun x hx => hk x (by simp [hx])) (fun x hx => hj x (by simp [hx])) h2]
theorem fit_true {w : Nat} {ks : List Nat} {ds : List PyData} (l : ds.length = ks.length) (h : ∀ (j : Nat) (d : PyData) (k : Nat), ds[j]? = some d → ks[j]? = some k → isOfD w k d = true) : fitD w ks (.tuple ds) = true := by
  simp only [fitD, l, decide_true, Bool.true_and, List.all_eq_true]
  intro p hp
  obtain ⟨j, hj⟩ := List.getElem?_of_mem hp
  obtain ⟨h1, h2⟩ := List.getElem?_zip_eq_some.mp hj
  exact h j _ _ h1 h2
theorem fit_empty {w : Nat} {ks : List Nat} (h : ∀ k ∈ ks, k < 5) : fitD w ks (emptyD ks) = true := by
  refine fit_true (by simp) fun j d k h1 h2 => ?_
  obtain ⟨k', hk', rfl⟩ := map_some h1
  rw [h2] at hk'; cases hk'
  have hw : isWord w (.int 0) = true := isWord_of ⟨Int.le_refl 0, pow_pos' w⟩
  rcases cases5 (h k (List.mem_of_getElem? h2)) with rfl | rfl | rfl | rfl | rfl
  · exact hw
  · show (wordsD w 200 (.tuple [.int 0]) && true) = true
    simp [wordsD, hw]
  · rfl
  · rfl
  · rfl
theorem r_slT1 {K : PySem.W.Frag} {H : Hp} {Q : VK} {a : Addr} {xs : List V} (h : H a = some (.tup xs)) (q : ∀ p H2, Ex H H2 → H2 p = some (.tup xs.dropLast) → Q (.ref p) H2) : rSlA K (.ref a) none (some (-1)) H Q := by
  refine ⟨a, xs, rfl, .of h, fun ⟨_, h2⟩ => ?_, fun _ p hp => ?_⟩
  · have e : xs = [] := by
      rw [HT.sIx, if_pos (by decide)] at h2
      exact List.length_eq_zero_iff.mp (by omega)
    subst e
    exact q a H (fun _ _ h => h) h
  · refine q p _ (Ex.new hp) ?_
    rw [upd_same]
    congr 2
    unfold cutV
    rw [HT.sIx, HT.sIx, if_pos (by decide), List.drop_zero, Nat.sub_zero, List.dropLast_eq_take]
    congr 1
    omega
theorem r_catT1 {K : PySem.W.Frag} {H : Hp} {Q : VK} {a b : Addr} {xs : List V} {v : V} (ha : H a = some (.tup xs)) (hb : H b = some (.tup [v])) (hz : xs.length ≤ 1000) (q : ∀ p H2, Ex H H2 → H2 p = some (.tup (xs ++ [v])) → Q (.ref p) H2) : rCatA K (.ref a) (.ref b) H Q := by
  refine ⟨a, b, xs, [v], rfl, rfl, .of ha, .of hb, sz_of (by simp; omega), fun e => ?_, fun _ h => (by cases h), fun _ _ p hp => q p _ (Ex.new hp) upd_same⟩
  subst e
  exact q b H (fun _ _ h => h) hb
theorem get_dropLast {α : Type} {xs : List α} {j : Nat} {x : α} (h : xs.dropLast[j]? = some x) : xs[j]? = some x := by
  rw [List.dropLast_eq_take] at h
  have hj := (List.getElem?_eq_some_iff.mp h).1
  rw [List.length_take] at hj
  rwa [List.getElem?_take_of_lt (by omega)] at h
theorem isEmpty_map2 {α β : Type} {f : α → β} {xs : List α} : (xs.map f).isEmpty = xs.isEmpty := by cases xs <;> rfl
theorem isEmpty_filterN {α : Type} {f : α → Bool} : ∀ {xs : List α}, (xs.filter fun x => !f x).isEmpty = xs.all f
  | [] => rfl
  | x :: xs => by by_cases h : f x = true <;> simp [h, isEmpty_filterN (f := f) (xs := xs)]
theorem dv_bls {H : Hp} {p : Addr} {bs : List Bool} (h : H p = some (.lst (bs.map V.bl))) : Dv [] H (.ref p) (.list (bs.map PyData.bool)) := .lst h (by simp) (by simp) fun i v d h1 h2 => by
  obtain ⟨x, e1, rfl⟩ := map_some h1
  obtain ⟨y, e2, rfl⟩ := map_some h2
  rw [e1] at e2; cases e2; exact .bl x
theorem Dv.add {M : List Addr} {H : Hp} {S : Addr} {v : V} {d : PyData} (h : Dv M H v d) (hS : H S = none) : Dv (S :: M) H v d := by
  induction h with
  | non => exact .non
  | bl b => exact .bl b
  | int i => exact .int i
  | str x => exact .str x
  | lst h n l t ih =>
    refine .lst h (fun z => ?_) l ih
    rcases List.mem_cons.mp z with z | z
    · rw [z, hS] at h; cases h
    · exact n z
  | tup h l t ih => exact .tup h l ih
theorem nice_lst_len {n : Nat} {ds : List PyData} (h : nice n (.list ds) = true) : ds.length ≤ 90000 := by
  have h1 := nice.ok h
  cases n with
  | zero => simp [okD] at h1
  | succ n => simp only [okD, Bool.and_eq_true, decide_eq_true_eq] at h1; exact h1.1
def qL : Str := (("law" : Str) ++ ".<locals>.") ++ "<lambda>"
def spLawT (K : PySem.W.Frag) (P' : Addr) : Sp := fun vs H Q _ => ∃ (a : Addr) (ns : List Int), vs = [.ref a] ∧ SqL K H a (ns.map V.int) ∧ ns.length ≤ 63 ∧ H P' = some (.tbl #[]) ∧ ∀ H', Q (.bl true) H'
section
variable {P : Program} {w : World} {K : PySem.W.Frag} {mg : Str → Option Value} {base : Heap} {cIW fIW cIQ fIQ cRe fRe : Addr}
theorem law_ok {x : Str} {st : Stmt} {N ps : List Str} {k : Nat} {sp : Sp} {f c : Addr} {oc : Value} {od an : Option Addr} {osl : Array (Option Value)} {kV doc pm ct : Value}
    (lk : K.lookup f = some ⟨oc, od, .func (PySem.W.fnOf x x (defArgs st) (defBody st) (defScope st) .none kV doc pm an (.ref c) ct), osl⟩) (hcd : PySem.W.codeIn K (.ref c) x = true) (S : FnScope N ps (defScope st)) (len : ∀ vs H Q E, sp vs H Q E → vs.length = ps.length)
    (hbody : ∀ (A : Around) (outer : List Env) (s : Shared) (H : Hp) (vs : List V) (Q : VK) (E : XK), Room k (A.deeper (PyProof.Rows.envOfC x (defScope st) s.heap.objs.size f (.ref c))) → sp vs H Q E →
      ∃ t, PSs (cxOf CX0 P w K mg base N x (defScope st) f (.ref c) A outer s H E).nox (defBody st) t ∧ t { nx := fun _ H' => Q .non H', rt := Q } (L2.start N vs) H) :
    FnOk P w K mg base CX0 (k + 1) f (PySem.W.fnOf x x (defArgs st) (defBody st) (defScope st) .none kV doc pm an (.ref c) ct) ps sp := by
  refine fn_of lk hcd S len fun A outer s H vs Q E hr hsp => ?_
  obtain ⟨t, h, q⟩ := hbody A outer s H vs Q E hr hsp
  exact ⟨t, h.nox, q⟩
abbrev s_law : Stmt := topS 40
theorem sc_law : FnScope ["script", "deal", "kinds", "turn", "width", "some", "place", "values", "kind", "long_array", "long_stack", "value", "found", "nothing", "empty", "near", "due", "one", "told", "odd", "right", "bad"] ["script"] (defScope s_law) := ⟨rfl, rfl, rfl, by decide +kernel, rfl, by decide +kernel, by decide +kernel⟩
theorem C_law {f0 c P' : Addr} {oc : Value} {od an : Option Addr} {osl : Array (Option Value)} {kV doc pm ct : Value}
    (lk : K.lookup f0 = some ⟨oc, od, .func (PySem.W.fnOf "law" "law" (defArgs s_law) (defBody s_law) (defScope s_law) .none kV doc pm an (.ref c) ct), osl⟩) (hcd : PySem.W.codeIn K (.ref c) "law" = true) (TB : LamX.TabB base mg c P') (Z : Bz mg) (FH : Fn K mg "_law_heard" s_heard ["work"])
    (T_InvalidWord : PySem.BkErr.ErrTxt P K mg "InvalidWord" cIW fIW) (T_InvalidQuestion : PySem.BkErr.ErrTxt P K mg "InvalidQuestion" cIQ fIQ) (T_Refused : PySem.BkErr.ErrTxt P K mg "Refused" cRe fRe)
    (x21 : PySem.W.exmOne K (.ref cIQ) (.ref cIW) = some false) (x31 : PySem.W.exmOne K (.ref cRe) (.ref cIW) = some false) (x32 : PySem.W.exmOne K (.ref cRe) (.ref cIQ) = some false)
    (CD : Cal P w K mg base 1 "_law_draw" (spDraw K)) (CA : Cal P w K mg base 1 "_law_any" spAny) (CO : Cal P w K mg base 2 "_law_of" spOf) (CI : Cal P w K mg base 3 "_law_width" spWidthD)
    (CS : Cal P w K mg base 6 "_law_same" (spSame 5)) (CVa : Cal P w K mg base 4 "_law_value" spValue) (CNe : Cal P w K mg base 3 "_law_near" spNear) (CF : Cal P w K mg base 7 "_law_is_of" spIsOfK)
    (CIv : CalR P w K mg base 5 "is_value" ["value", "width"] (spIsValue P K mg)) (CKo : CalR P w K mg base 5 "kinds_of" ["value", "width"] (spKindsOf P K mg)) (CFi : CalR P w K mg base 6 "fit" ["values", "kinds", "width"] (spFit P K mg)) (CEm : CalR P w K mg base 3 "empty_of" ["kinds"] (spEmpty P K mg))
    (CKs : CalK P w K mg base 2 "are_kinds" ["value"] spKinds) (CK : CalK P w K mg base 1 "is_kind" ["value"] spKind) :
    FnOk P w K mg base CX0 9 f0 (PySem.W.fnOf "law" "law" (defArgs s_law) (defBody s_law) (defScope s_law) .none kV doc pm an (.ref c) ct) ["script"] (spLawT K P') := by
  have S := sc_law
  refine law_ok lk hcd S (fun vs H Q E h => ?_) (fun A' outer s H vs Q E hr h => ?_)
  · obtain ⟨a, ns, rfl, _⟩ := h; rfl
  · obtain ⟨a, ns, rfl, ha, hl, hP, q⟩ := h
    refine ⟨_, (pss_cons (ps_set (i := 1) S.nd rfl (Or.inr rfl) (pe_c0 CD hr (by omega) (by rfl) (pa_cons (pv 0) (pa_cons pe_int pa_nil))))
      (pss_cons (ps_set (i := 2) S.nd rfl (Or.inr rfl) (pe_lst (pa_cons pe_str (pa_cons pe_str (pa_cons pe_str (pa_cons pe_str (pa_cons pe_str pa_nil)))))))
      (pss_cons (ps_for PassesOwn.never rfl (pi_range1 (by rfl) Z.range (pa_cons pe_int pa_nil)) (pg_name (i := 3) S.nd rfl (Or.inl rfl)) (pss_cons (ps_set (i := 4) S.nd rfl (Or.inr rfl) (pe_c0 CI hr (by omega) (by rfl) (pa_cons (pv 1) pa_nil)))
      (pss_cons (ps_set (i := 5) S.nd rfl (Or.inr rfl) (pe_callTy (call_tuple_of) (by rfl) Z.tuple (by decide +kernel) (pa_cons (pe_lc (own := [("place", 6)]) (g := (gName 6)) (tt := tYes) rfl S.nd (pi_range1 (by rfl) Z.range (pa_cons (pe_c0 CA hr (by omega) (by rfl) (pa_cons (pv 1) (pa_cons pe_int pa_nil))) pa_nil)) (blkOk_by (N := ["script", "deal", "kinds", "turn", "width", "some", "place", "values", "kind", "long_array", "long_stack", "value", "found", "nothing", "empty", "near", "due", "one", "told", "odd", "right", "bad"]) (sc := defScope s_law) (by decide +kernel)) (fun _ _ _ _ _ => (pg_name (i := 6) S.nd rfl (Or.inl rfl))) (fun _ _ _ _ _ => pts_nil) (fun _ _ _ _ _ => (pe_c0 CO hr (by omega) (by rfl) (pa_cons (pv 1) (pa_cons (pv 2) pa_nil))))) pa_nil)))
      (pss_cons (ps_set (i := 7) S.nd rfl (Or.inr rfl) (pe_callTy (call_tuple_of) (by rfl) Z.tuple (by decide +kernel) (pa_cons (pe_lc (own := [("kind", 8)]) (g := (gName 8)) (tt := tYes) rfl S.nd (pi_tup (pv 5)) (blkOk_by (N := ["script", "deal", "kinds", "turn", "width", "some", "place", "values", "kind", "long_array", "long_stack", "value", "found", "nothing", "empty", "near", "due", "one", "told", "odd", "right", "bad"]) (sc := defScope s_law) (by decide +kernel)) (fun _ _ _ _ _ => (pg_name (i := 8) S.nd rfl (Or.inl rfl))) (fun _ _ _ _ _ => pts_nil) (fun _ _ _ _ _ => (pe_c0 CVa hr (by omega) (by rfl) (pa_cons (pv 1) (pa_cons (pv 8) (pa_cons (pv 4) pa_nil)))))) pa_nil)))
      (pss_cons (ps_par (i := 9) (j := 10) rfl S.nd rfl rfl (by decide) rfl rfl (pa_cons (pe_op op_repTW (pe_tup (pa_cons pe_int pa_nil)) (pe_c0 CO hr (by omega) (by rfl) (pa_cons (pv 1) (pa_cons (pe_lst (pa_cons pe_int (pa_cons pe_int (pa_cons pe_int pa_nil)))) pa_nil)))) (pa_cons (pe_tup (pa_cons pe_str (pa_cons (pe_op op_repTW (pe_tup (pa_cons pe_int pa_nil)) (pe_c0 CO hr (by omega) (by rfl) (pa_cons (pv 1) (pa_cons (pe_lst (pa_cons pe_int (pa_cons pe_int (pa_cons pe_int pa_nil)))) pa_nil)))) pa_nil))) pa_nil)) (by rfl))
      (pss_cons (ps_for PassesOwn.never rfl (pi_list (pe_op op_cat (pe_op op_cat (pe_callTy (call_list_of) (by rfl) Z.list (by decide +kernel) (pa_cons (pv 7) pa_nil)) (pe_lst (pa_cons (pv 9) (pa_cons (pv 10) pa_nil)))) (pe_lc (own := [("place", 6)]) (g := (gName 6)) (tt := tYes) rfl S.nd (pi_range1 (by rfl) Z.range (pa_cons pe_int pa_nil)) (blkOk_by (N := ["script", "deal", "kinds", "turn", "width", "some", "place", "values", "kind", "long_array", "long_stack", "value", "found", "nothing", "empty", "near", "due", "one", "told", "odd", "right", "bad"]) (sc := defScope s_law) (by decide +kernel)) (fun _ _ _ _ _ => (pg_name (i := 6) S.nd rfl (Or.inl rfl))) (fun _ _ _ _ _ => pts_nil) (fun _ _ _ _ _ => (pe_c0 CNe hr (by omega) (by rfl) (pa_cons (pv 1) (pa_cons (pe_c0 CVa hr (by omega) (by rfl) (pa_cons (pv 1) (pa_cons (pe_c0 CO hr (by omega) (by rfl) (pa_cons (pv 1) (pa_cons (pv 2) pa_nil))) (pa_cons (pv 4) pa_nil)))) (pa_cons (pv 4) pa_nil)))))))) (pg_name (i := 11) S.nd rfl (Or.inr rfl)) (pss_cons (ps_setLc (i := 12) (own := [("kind", 8)]) (g := (gName 8)) rfl S.nd rfl rfl (sw_true rfl rfl rfl (by decide +kernel)) (pi_list (pv 2)) (blkOk_by (N := ["script", "deal", "kinds", "turn", "width", "some", "place", "values", "kind", "long_array", "long_stack", "value", "found", "nothing", "empty", "near", "due", "one", "told", "odd", "right", "bad"]) (sc := defScope s_law) (by decide +kernel)) (fun _ _ _ _ _ => (pg_name (i := 8) S.nd rfl (Or.inl rfl))) (fun _ _ _ _ _ => (pts_one (pt_val (pe_c0 CF hr (by omega) (by rfl) (pa_cons (pv 11) (pa_cons (pv 8) (pa_cons (pv 4) pa_nil))))))) (fun _ _ _ _ _ => (pv 8)))
      (pss_cons (ps_if (pt_not (pt_val (pe_c0 CS hr (by omega) (by rfl) (pa_cons (pe_cnk CIv hr (by omega) (by rfl) (pk_cons (pv 11) (pk_cons (pv 4) pk_nil))) (pa_cons (pe_cmpR (op_neD hr.units) (pv 12) (pe_lst pa_nil) (nomark _)) pa_nil))))) (pss_one (ps_ret pe_bl)) pss_nil)
      (pss_one (ps_if (pt_not (pt_val (pe_c0 CS hr (by omega) (by rfl) (pa_cons (pe_heard (k := 6) FH T_InvalidWord T_InvalidQuestion T_Refused x21 x31 x32 TB rfl hr (by rfl) (LamX.lamS_by (sc := defScope s_law) (by decide +kernel)) rfl (fun _ _ _ _ _ => rfl) (fun A2 outer2 s2 H2 E2 f2 c2 hr => (pe_crk CKo hr (by omega) (by rfl) (takes_of rfl rfl rfl rfl) (fun _ _ _ _ h => h) (pk_cons (pv 11) (pk_cons (pv 4) pk_nil))))) (pa_cons (pe_ifExp (pt_cmpR (op_neD hr.units) (pv 12) (pe_lst pa_nil) (nomark _)) (pe_tup (pa_cons pe_str (pa_cons (pe_callTy (call_tuple_of) (by rfl) Z.tuple (by decide +kernel) (pa_cons (pv 12) pa_nil)) pa_nil))) (pe_tup (pa_cons pe_str (pa_cons pe_int pa_nil)))) pa_nil))))) (pss_one (ps_ret pe_bl)) pss_nil)))))
      (pss_cons (ps_set (i := 13) S.nd rfl (Or.inr rfl) (pe_disp (pps_cons pe_str pe_int (pps_cons pe_str (pe_tup (pa_cons pe_int pa_nil)) (pps_cons pe_str (pe_tup (pa_cons pe_str (pa_cons (pe_tup pa_nil) pa_nil))) (pps_cons pe_str (pe_tup (pa_cons pe_str (pa_cons (pe_tup pa_nil) pa_nil))) (pps_cons pe_str (pe_tup (pa_cons pe_str (pa_cons (pe_tup pa_nil) pa_nil))) pps_nil))))) (by rfl) rfl (by simp) (by decide)))
      (pss_cons (ps_set (i := 14) S.nd rfl (Or.inl rfl) (pe_callTy (call_tuple_of) (by rfl) Z.tuple (by decide +kernel) (pa_cons (pe_lc (own := [("kind", 8)]) (g := (gName 8)) (tt := tYes) rfl S.nd (pi_tup (pv 5)) (blkOk_by (N := ["script", "deal", "kinds", "turn", "width", "some", "place", "values", "kind", "long_array", "long_stack", "value", "found", "nothing", "empty", "near", "due", "one", "told", "odd", "right", "bad"]) (sc := defScope s_law) (by decide +kernel)) (fun _ _ _ _ _ => (pg_name (i := 8) S.nd rfl (Or.inl rfl))) (fun _ _ _ _ _ => pts_nil) (fun _ _ _ _ _ => (pe_dget (hu_of hr) (pv 13) (pv 8) (fun _ _ => rfl)))) pa_nil)))
      (pss_cons (ps_set (i := 15) S.nd rfl (Or.inl rfl) (pe_op op_catA (pe_slice sl_tupA (pv 7) po_none (po_some (pe_un un_neg pe_int))) (pe_tup (pa_cons (pe_c0 CNe hr (by omega) (by rfl) (pa_cons (pv 1) (pa_cons pe_int (pa_cons (pv 4) pa_nil)))) pa_nil))))
      (pss_cons (ps_set (i := 16) S.nd rfl (Or.inl rfl) (pe_and (pe_cmpR op_eq (pe_callB (cr_len) (by rfl) Z.len (by decide +kernel) (pa_cons (pv 15) pa_nil)) (pe_callB (cr_len) (by rfl) Z.len (by decide +kernel) (pa_cons (pv 5) pa_nil)) (nomark _)) (pe_one (pe_cmpR (op_eqD hr.units) (pe_lc (own := [("one", 17), ("kind", 8)]) (g := (gTup K 2 (gCons (gName 17) (gCons (gName 8) gNil)))) rfl S.nd (RZ.pi_zipA (by rfl) Z.zip (pa_cons (pv 15) (pa_cons (pv 5) pa_nil))) (blkOk_by (N := ["script", "deal", "kinds", "turn", "width", "some", "place", "values", "kind", "long_array", "long_stack", "value", "found", "nothing", "empty", "near", "due", "one", "told", "odd", "right", "bad"]) (sc := defScope s_law) (by decide +kernel)) (fun _ _ _ _ _ => (pg_tup rfl (pgs_cons (pg_name (i := 17) S.nd rfl (Or.inl rfl)) (pgs_cons (pg_name (i := 8) S.nd rfl (Or.inl rfl)) pgs_nil)))) (fun _ _ _ _ _ => (pts_one (pt_not (pt_val (pe_c0 CF hr (by omega) (by rfl) (pa_cons (pv 17) (pa_cons (pv 8) (pa_cons (pv 4) pa_nil)))))))) (fun _ _ _ _ _ => (pv 8))) (pe_lst pa_nil) (nomark _)))))
      (pss_cons (ps_set (i := 18) S.nd rfl (Or.inl rfl) (pe_lst (pa_cons (pe_cnk CFi hr (by omega) (by rfl) (pk_cons (pv 7) (pk_cons (pv 5) (pk_cons (pv 4) pk_nil)))) (pa_cons (pe_cn CFi hr (by omega) (by rfl) (pa_cons (pv 15) (pa_cons (pv 5) (pa_cons (pv 4) pa_nil)))) (pa_cons (pe_cn CFi hr (by omega) (by rfl) (pa_cons (pe_callTy (call_list_of) (by rfl) Z.list (by decide +kernel) (pa_cons (pv 7) pa_nil)) (pa_cons (pv 5) (pa_cons (pv 4) pa_nil)))) (pa_cons (pe_cn CFi hr (by omega) (by rfl) (pa_cons (pe_op op_catA (pv 7) (pe_tup (pa_cons pe_int pa_nil))) (pa_cons (pv 5) (pa_cons (pv 4) pa_nil)))) (pa_cons (pe_cn CEm hr (by omega) (by rfl) (pa_cons (pe_callTy (call_list_of) (by rfl) Z.list (by decide +kernel) (pa_cons (pv 5) pa_nil)) pa_nil)) (pa_cons (pe_cnk CEm hr (by omega) (by rfl) (pk_cons (pv 5) pk_nil)) pa_nil))))))))
      (pss_cons (ps_if (PW.pt (pw_or (pt_not (pt_val (pe_c0 CS hr (by omega) (by rfl) (pa_cons (pv 18) (pa_cons (pe_lst (pa_cons pe_bl (pa_cons (pv 16) (pa_cons pe_bl (pa_cons pe_bl (pa_cons (pv 14) (pa_cons (pv 14) pa_nil))))))) pa_nil))))) (pw_or1 (pt_not (pt_val (pe_c0 CS hr (by omega) (by rfl) (pa_cons (pe_cn CFi hr (by omega) (by rfl) (pa_cons (pv 14) (pa_cons (pv 5) (pa_cons (pv 4) pa_nil)))) (pa_cons pe_bl pa_nil)))))))) (pss_one (ps_ret pe_bl)) pss_nil)
      (pss_cons (ps_set (i := 19) S.nd rfl (Or.inr rfl) (pe_c0 CO hr (by omega) (by rfl) (pa_cons (pv 1) (pa_cons (pe_lst (pa_cons pe_non (pa_cons pe_str (pa_cons (pe_tup (pa_cons pe_str pa_nil)) (pa_cons (pe_op op_repTW (pe_tup (pa_cons pe_str pa_nil)) pe_int) (pa_cons (pe_tup (pa_cons pe_str (pa_cons pe_non pa_nil))) (pa_cons (pe_lst (pa_cons (pe_tup (pa_cons pe_str pa_nil)) pa_nil)) (pa_cons (pe_tup (pa_cons pe_str pa_nil)) pa_nil)))))))) pa_nil))))
      (pss_cons (ps_set (i := 20) S.nd rfl (Or.inl rfl) (pe_and (pe_callB call_isi (by rfl) Z.isinstance (by decide +kernel) (pa_cons (pv 19) (pa_cons (pe_bltn (v := .ty "tuple") (by rfl) Z.tuple (by decide +kernel) rfl) pa_nil))) (pe_and (pe_cmpR op_le (pe_callB (cr_len) (by rfl) Z.len (by decide +kernel) (pa_cons (pv 19) pa_nil)) pe_int (nomark _)) (pe_one (pe_cmpR (op_eqD hr.units) (pe_lc (own := [("one", 17)]) (g := (gName 17)) rfl S.nd (pi_tup (pv 19)) (blkOk_by (N := ["script", "deal", "kinds", "turn", "width", "some", "place", "values", "kind", "long_array", "long_stack", "value", "found", "nothing", "empty", "near", "due", "one", "told", "odd", "right", "bad"]) (sc := defScope s_law) (by decide +kernel)) (fun _ _ _ _ _ => (pg_name (i := 17) S.nd rfl (Or.inl rfl))) (fun _ _ _ _ _ => (pts_one (pt_cmpR (show OpR _ (compareOp .NotIn) (rIn K true) from op_notIn_seq) (pv 17) (pv 2) (by rfl)))) (fun _ _ _ _ _ => (pv 17))) (pe_lst pa_nil) (nomark _))))))
      (pss_cons (ps_set (i := 18) S.nd rfl (Or.inl rfl) (pe_lst (pa_cons (pe_ck CKs hr (by omega) (by rfl) (pk_cons (pv 19) pk_nil)) (pa_cons (pe_c0 CKs.cal hr (by omega) (by rfl) (pa_cons (pv 5) pa_nil)) (pa_cons (pe_c0 CKs.cal hr (by omega) (by rfl) (pa_cons (pe_callTy (call_list_of) (by rfl) Z.list (by decide +kernel) (pa_cons (pv 5) pa_nil)) pa_nil)) (pa_cons (pe_c0 CK.cal hr (by omega) (by rfl) (pa_cons (pe_c0 CO hr (by omega) (by rfl) (pa_cons (pv 1) (pa_cons (pv 2) pa_nil))) pa_nil)) (pa_cons (pe_ck CK hr (by omega) (by rfl) (pk_cons (pe_c0 CO hr (by omega) (by rfl) (pa_cons (pv 1) (pa_cons (pe_lst (pa_cons pe_str (pa_cons pe_str (pa_cons pe_non (pa_cons pe_int (pa_cons (pe_tup (pa_cons pe_str pa_nil)) (pa_cons pe_str pa_nil))))))) pa_nil))) pk_nil)) pa_nil)))))))
      (pss_cons (ps_if (pt_not (pt_val (pe_c0 CS hr (by omega) (by rfl) (pa_cons (pv 18) (pa_cons (pe_lst (pa_cons (pv 20) (pa_cons pe_bl (pa_cons pe_bl (pa_cons pe_bl (pa_cons pe_bl pa_nil)))))) pa_nil))))) (pss_one (ps_ret pe_bl)) pss_nil)
      (pss_cons (ps_set (i := 21) S.nd rfl (Or.inr rfl) (pe_c0 CO hr (by omega) (by rfl) (pa_cons (pv 1) (pa_cons (pe_lst (pa_cons pe_int (pa_cons pe_int (pa_cons pe_non (pa_cons pe_bl pa_nil))))) pa_nil))))
      (pss_cons (ps_set (i := 18) S.nd rfl (Or.inl rfl) (pe_lst (pa_cons (pe_heard (k := 6) FH T_InvalidWord T_InvalidQuestion T_Refused x21 x31 x32 TB rfl hr (by rfl) (LamX.lamS_by (sc := defScope s_law) (by decide +kernel)) rfl (fun _ _ _ _ _ => rfl) (fun A2 outer2 s2 H2 E2 f2 c2 hr => (pe_cr CIv hr (by omega) (by rfl) (takes_of rfl rfl rfl rfl) (fun _ _ _ _ h => h) (pa_cons pe_int (pa_cons (pv 21) pa_nil))))) pa_nil)))
      (pss_cons (ps_expr (pe_bm PySem.F.plainAttrs_list PySem.F.slot_list_append PySem.F.type_list_append mt_append (pv 18) (pa_cons (pe_heard (k := 6) FH T_InvalidWord T_InvalidQuestion T_Refused x21 x31 x32 TB rfl hr (by rfl) (LamX.lamS_by (sc := defScope s_law) (by decide +kernel)) rfl (fun _ _ _ _ _ => rfl) (fun A2 outer2 s2 H2 E2 f2 c2 hr => (pe_cr CKo hr (by omega) (by rfl) (takes_of rfl rfl rfl rfl) (fun _ _ _ _ h => h) (pa_cons pe_non (pa_cons (pv 21) pa_nil))))) pa_nil)))
      (pss_cons (ps_expr (pe_bm PySem.F.plainAttrs_list PySem.F.slot_list_append PySem.F.type_list_append mt_append (pv 18) (pa_cons (pe_heard (k := 6) FH T_InvalidWord T_InvalidQuestion T_Refused x21 x31 x32 TB rfl hr (by rfl) (LamX.lamS_by (sc := defScope s_law) (by decide +kernel)) rfl (fun _ _ _ _ _ => rfl) (fun A2 outer2 s2 H2 E2 f2 c2 hr => (pe_cr CFi hr (by omega) (by rfl) (takes_of rfl rfl rfl rfl) (fun _ _ _ _ h => h) (pa_cons (pv 7) (pa_cons (pv 19) (pa_cons (pv 21) pa_nil)))))) pa_nil)))
      (pss_cons (ps_expr (pe_bm PySem.F.plainAttrs_list PySem.F.slot_list_append PySem.F.type_list_append mt_append (pv 18) (pa_cons (pe_heard (k := 6) FH T_InvalidWord T_InvalidQuestion T_Refused x21 x31 x32 TB rfl hr (by rfl) (LamX.lamS_by (sc := defScope s_law) (by decide +kernel)) rfl (fun _ _ _ _ _ => rfl) (fun A2 outer2 s2 H2 E2 f2 c2 hr => (pe_cr CFi hr (by omega) (by rfl) (takes_of rfl rfl rfl rfl) (fun _ _ _ _ h => h) (pa_cons (pv 7) (pa_cons (pv 5) (pa_cons (pv 21) pa_nil)))))) pa_nil)))
      (pss_cons (ps_expr (pe_bm PySem.F.plainAttrs_list PySem.F.slot_list_append PySem.F.type_list_append mt_append (pv 18) (pa_cons (pe_heard (k := 6) FH T_InvalidWord T_InvalidQuestion T_Refused x21 x31 x32 TB rfl hr (by rfl) (LamX.lamS_by (sc := defScope s_law) (by decide +kernel)) rfl (fun _ _ _ _ _ => rfl) (fun A2 outer2 s2 H2 E2 f2 c2 hr => (pe_cr CEm hr (by omega) (by rfl) (takes_of rfl rfl rfl rfl) (fun _ _ _ _ h => h) (pa_cons (pv 19) pa_nil)))) pa_nil)))
      (pss_one (ps_if (pt_not (pt_val (pe_c0 CS hr (by omega) (by rfl) (pa_cons (pv 18) (pa_cons (pe_lst (pa_cons (pe_tup (pa_cons pe_str (pa_cons pe_int pa_nil))) (pa_cons (pe_tup (pa_cons pe_str (pa_cons pe_int pa_nil))) (pa_cons (pe_tup (pa_cons pe_str (pa_cons pe_int pa_nil))) (pa_cons (pe_tup (pa_cons pe_str (pa_cons pe_int pa_nil))) (pa_cons (pe_tup (pa_cons pe_str (pa_cons pe_int pa_nil))) pa_nil)))))) pa_nil))))) (pss_one (ps_ret pe_bl)) pss_nil))))))))))))))))))))))))
      (pss_one (ps_ret pe_bl))))), ?_⟩
    try dsimp only [cxOf, Cx.nox, Cx.wish]
    have hT0 : LamX.Tabs [(P', qL)] H := fun p hp => by rw [List.mem_singleton.mp hp]; exact LamX.TabS.nil hP
    walk_at "w"
    refine ⟨a, ns, 3, rfl, ha, hl, by decide, by decide, fun D L H1 e1 d1 => ?_⟩
    walk_at "w"
    rename_i pk H2 hpk e2 h2
    obtain ⟨nk1, nk2⟩ := d1.fresh hpk
    have d2 := d1.keep e2
    have hT2 := hT0.ext (e1.trans e2)
    refine a_rng1 (n := 6) rfl (by omega) (fun i σ' H' => Deal H' D L ∧ LamX.Tabs [(P', qL)] H' ∧ H' pk = some (.lst kindsV) ∧ ∃ x3 x4 x5 x6 x7 x8 x9 x10 x11 x12 x13 x14 x15 x16 x17 x18 x19 x20 x21, σ' = [some (.ref a), some (.ref D), some (.ref pk), x3, x4, x5, x6, x7, x8, x9, x10, x11, x12, x13, x14, x15, x16, x17, x18, x19, x20, x21])
      ⟨d2, hT2, h2, _, _, _, _, _, _, _, _, _, _, _, _, _, _, _, _, _, _, _, rfl⟩ (fun i σ' H' hi p => ?_) (fun σ' H' p => ?_)
    case refine_2 =>
      obtain ⟨d, _, _, x3, x4, x5, x6, x7, x8, x9, x10, x11, x12, x13, x14, x15, x16, x17, x18, x19, x20, x21, rfl⟩ := p
      walk_at "w"
      exact q _
    clear d1 d2 e1 e2 h2 ha q hT0 hT2 hpk hP
    obtain ⟨d, hT, hk, x3, x4, x5, x6, x7, x8, x9, x10, x11, x12, x13, x14, x15, x16, x17, x18, x19, x20, x21, rfl⟩ := p
    walk_at "w"
    refine ⟨D, L, rfl, d, fun wd H3 w1 w2 d3 k3 => ?_⟩
    have hT3 := tabs_kpD hT k3 d
    have hk3 := k3.at hk (by simp [nk1, nk2])
    clear d hT hk k3
    walk_at "w"
    refine ⟨D, L, 5, rfl, d3, by decide, by decide +kernel, fun z H4 z0 z1 d4 k4 => ?_⟩
    have hT4 := tabs_kpD hT3 k4 d3
    have hk4 := k4.at hk3 (by simp [nk1, nk2])
    clear d3 hT3 hk3 k4
    refine a_lcR (n := z.toNat) (by omega) (by omega) (lcR (fun i acc D' H' => Deal H' D L ∧ LamX.Tabs [(P', qL)] H' ∧ H' pk = some (.lst kindsV) ∧ ∃ ks : List Nat, acc = ks.map kindV ∧ ks.length = i ∧ ∀ k ∈ ks, k < 5) (fun D' H2 _ e _ => ⟨d4.keep e, hT4.ext e, e _ _ hk4, [], rfl, rfl, by simp⟩) (fun i acc D' H' hi hlt hD hacc p => ?_) (fun acc T5 H5 _ hT5 h5 p => ?_))
    · obtain ⟨d', hT', hk', ks, rfl, hl, h5⟩ := p
      obtain ⟨n1, n2⟩ := d4.fresh hD
      have n3 : pk ≠ D' := ne_of_none hk4 hD
      walk_at "w"
      refine ⟨D, L, pk, _, rfl, d', hk', nk1, nk2, by decide, by decide, fun j x H5 hx d5 k5 => ?_⟩
      obtain ⟨hj, rfl⟩ := kind_at hx
      have ha5 := k5.at hacc (by simp [n1, n2])
      refine k_lc ha5 hlt (by omega) fun H6 h6 k6 => ⟨d5.kpm k6 n1 n2, tabs_mut (tabs_kpD hT' k5 d') k6 ha5, k6 _ _ n3 (k5.at hk' (by simp [nk1, nk2])), ks ++ [j], by simp [kindV], by simp [hl], fun k hk => ?_⟩
      rcases List.mem_append.mp hk with h | h
      · exact h5 k h
      · rw [List.mem_singleton.mp h]; exact hj
    obtain ⟨d5, hT5', hk5, ks, rfl, hks5, h5k⟩ := p
    have hksl : ks.length ≤ 5 := by omega
    refine ⟨T5, _, rfl, .inl ⟨.of h5, fun ps hps => ?_⟩⟩
    have e6 := Ex.new (o := .tup (ks.map kindV)) hps
    have h6 : upd H5 ps (.tup (ks.map kindV)) ps = _ := upd_same
    generalize upd H5 ps (.tup (ks.map kindV)) = H6 at e6 h6 ⊢
    have d6 := d5.keep e6
    have hT6 := hT5'.ext e6
    have hk6 := e6 _ _ hk5
    obtain ⟨ns1, ns2⟩ := d5.fresh hps
    clear d4 hT4 hk4 d5 hT5' hk5 h5 e6 hps hT5
    walk_at "w"
    refine k_lcT (.of h6) (lcT (xs := ks.map kindV) (fun i acc D' H' => Deal H' D L ∧ LamX.Tabs [(P', qL)] H' ∧ H' pk = some (.lst kindsV) ∧ H' ps = some (.tup (ks.map kindV)) ∧ ∃ ds : List PyData, acc.length = ds.length ∧ ds.length = i ∧ (∀ (j : Nat) (v : V) (d : PyData), acc[j]? = some v → ds[j]? = some d → ∀ M, Dv M H' v d) ∧ (∀ (j : Nat) (d : PyData) (k : Nat), ds[j]? = some d → ks[j]? = some k → isOfD wd k d = true) ∧ ∀ d ∈ ds, nice 3 d = true)
      (fun D' H2 _ e _ => ⟨d6.keep e, hT6.ext e, e _ _ hk6, e _ _ h6, [], rfl, rfl, by simp, by simp, by simp⟩) (fun i acc D' H' _ p => .of p.2.2.2.1) (fun i x acc D' H' hx hlt hD hacc p => ?_) (fun acc T7 H7 _ hT7 h7 p => ?_))
    · obtain ⟨d', hT', hk', hs', ds, hl1, hl2, hv, hof, hni⟩ := p
      obtain ⟨k, hki, rfl⟩ := map_some hx
      have hi : i < ks.length := (List.getElem?_eq_some_iff.mp hki).1
      obtain ⟨n1, n2⟩ := d6.fresh hD
      have n3 : pk ≠ D' := ne_of_none hk6 hD
      have n4 : ps ≠ D' := ne_of_none h6 hD
      walk_at "w"
      refine ⟨D, L, k, wd, rfl, h5k k (List.mem_of_getElem? hki), w1, w2, d', fun v dv H8 hdv hov hnv d8 k8 => ?_⟩
      have ha8 := k8.at hacc (by simp [n1, n2])
      refine k_lc ha8 hlt (by omega) fun H9 h9 k9 => ⟨d8.kpm k9 n1 n2, tabs_mut (tabs_kpD hT' k8 d') k9 ha8, k9 _ _ n3 (k8.at hk' (by simp [nk1, nk2])), k9 _ _ n4 (k8.at hs' (by simp [ns1, ns2])), ds ++ [dv], by simp [hl1], by simp [hl2], ?_, ?_, ?_⟩
      · have t9 : Kt H' H9 := (Kt.of_kp k8 d').trans (.of_mut k9 ha8)
        have t89 : Kt H8 H9 := .of_mut k9 ha8
        exact snoc_rel hl1 (fun j v d h1 h2 => Dv.allKt t9 d v (hv j v d h1 h2)) (Dv.allKt t89 dv v hdv)
      · intro j d k' h1 h2
        by_cases hj : j < ds.length
        · rw [List.getElem?_append_left hj] at h1
          exact hof j d k' h1 h2
        · have hj2 := (List.getElem?_eq_some_iff.mp h1).1
          rw [List.length_append, List.length_singleton] at hj2
          have hje : j = ds.length := by omega
          subst hje
          rw [List.getElem?_append_right (Nat.le_refl _), Nat.sub_self] at h1
          cases h1
          rw [hl2, hki] at h2; cases h2
          exact hov
      · intro d hd
        rcases List.mem_append.mp hd with h | h
        · exact hni d h
        · rw [List.mem_singleton.mp h]; exact hnv
    obtain ⟨d7, hT7', hk7, hs7, ds, hl1, hl2, hdv, hof, hni⟩ := p
    rw [List.length_map] at hl2
    refine ⟨T7, _, rfl, .inl ⟨.of h7, fun pv hpv => ?_⟩⟩
    have e8 := Ex.new (o := .tup acc) hpv
    have h8 : upd H7 pv (.tup acc) pv = _ := upd_same
    generalize upd H7 pv (.tup acc) = H8 at e8 h8 ⊢
    have d8 := d7.keep e8
    have hT8 := hT7'.ext e8
    have hk8 := e8 _ _ hk7
    have hs8 := e8 _ _ hs7
    have hv8 : ∀ (j : Nat) (v : V) (d : PyData), acc[j]? = some v → ds[j]? = some d → ∀ M, Dv M H8 v d := fun j v d h1 h2 M => (hdv j v d h1 h2 M).ex e8
    obtain ⟨nv1, nv2⟩ := d7.fresh hpv
    clear d6 hT6 hk6 h6 d7 hT7' hk7 hs7 h7 hdv e8 hpv hT7
    -- the long ones
    walk_at "w"
    rename_i p9 H9 hp9 e9 h9 p10 H10 hp10 e10 h10
    obtain ⟨n1, n2⟩ := (d8.keep e9).fresh hp10
    refine ⟨D, L, p10, _, rfl, (d8.keep e9).keep e10, h10, n1, n2, by simp, by simp, fun i11 x H11 hx d11 k11 => ?_⟩
    obtain ⟨na, rfl, na1, na2⟩ : ∃ n : Int, x = .int n ∧ 2 ≤ n ∧ n ≤ 5000 := by
      have hm := List.mem_of_getElem? hx
      simp only [List.mem_cons, List.not_mem_nil, or_false] at hm
      rcases hm with rfl | rfl | rfl <;> exact ⟨_, rfl, by decide, by decide⟩
    have d10 := (d8.keep e9).keep e10
    have t11 := Kt.of_kp k11 d10
    have hT11 := tabs_kpD ((hT8.ext e9).ext e10) k11 d10
    have hk11 := k11.at (e10 _ _ (e9 _ _ hk8)) (by simp [nk1, nk2])
    have hs11 := t11 _ _ (e10 _ _ (e9 _ _ hs8))
    have hpv11 := t11 _ _ (e10 _ _ (e9 _ _ h8))
    have h911 := t11 _ _ (e10 _ _ h9)
    have tt : Kt H8 H11 := ((Kt.of_ex e9).trans (Kt.of_ex e10)).trans t11
    have hv11 : ∀ (j : Nat) (v : V) (d : PyData), acc[j]? = some v → ds[j]? = some d → ∀ M, Dv M H11 v d := fun j v d h1 h2 => Dv.allKt tt d v (hv8 j v d h1 h2)
    clear hx d8 d10 hT8 hk8 hs8 h8 hv8 e9 e10 k11 h9 h10 hp9 hp10 t11 tt n1 n2
    refine r_repTW h911 na1 na2 fun pla H12 hpla e12 h12 => ?_
    walk_at "w"
    rename_i p13 H13 hp13 e13 h13 p14 H14 hp14 e14 h14
    have d12 := d11.keep e12
    obtain ⟨n1, n2⟩ := (d12.keep e13).fresh hp14
    refine ⟨D, L, p14, _, rfl, (d12.keep e13).keep e14, h14, n1, n2, by simp, by simp, fun i15 x H15 hx d15 k15 => ?_⟩
    obtain ⟨nb, rfl, nb1, nb2⟩ : ∃ n : Int, x = .int n ∧ 2 ≤ n ∧ n ≤ 5000 := by
      have hm := List.mem_of_getElem? hx
      simp only [List.mem_cons, List.not_mem_nil, or_false] at hm
      rcases hm with rfl | rfl | rfl <;> exact ⟨_, rfl, by decide, by decide⟩
    have d14 := (d12.keep e13).keep e14
    have t15 := Kt.of_kp k15 d14
    have hT15 := tabs_kpD (((hT11.ext e12).ext e13).ext e14) k15 d14
    have hk15 := k15.at (e14 _ _ (e13 _ _ (e12 _ _ hk11))) (by simp [nk1, nk2])
    have hs15 := t15 _ _ (e14 _ _ (e13 _ _ (e12 _ _ hs11)))
    have hpv15 := t15 _ _ (e14 _ _ (e13 _ _ (e12 _ _ hpv11)))
    have hla15 := t15 _ _ (e14 _ _ (e13 _ _ h12))
    have h1315 := t15 _ _ (e14 _ _ h13)
    have tt : Kt H11 H15 := (((Kt.of_ex e12).trans (Kt.of_ex e13)).trans (Kt.of_ex e14)).trans t15
    have hv15 : ∀ (j : Nat) (v : V) (d : PyData), acc[j]? = some v → ds[j]? = some d → ∀ M, Dv M H15 v d := fun j v d h1 h2 => Dv.allKt tt d v (hv11 j v d h1 h2)
    clear hx d11 d12 d14 hT11 hk11 hs11 hpv11 h12 hv11 e12 e13 e14 k15 h13 h14 hp13 hp14 t15 tt n1 n2 h911 hpla
    refine r_repTW h1315 nb1 nb2 fun pl0 H16 hpl0 e16 h16 => ?_
    walk_at "w"
    rename_i pls H17 hpls e17 h17
    have x17 := e16.trans e17
    have d17 := d15.keep x17
    have hT17 := hT15.ext x17
    have hk17 := x17 _ _ hk15
    have hs17 := x17 _ _ hs15
    have hpv17 := x17 _ _ hpv15
    have hla17 := x17 _ _ hla15
    have h1617 := e17 _ _ h16
    have hv17 : ∀ (j : Nat) (v : V) (d : PyData), acc[j]? = some v → ds[j]? = some d → ∀ M, Dv M H17 v d := fun j v d h1 h2 M => (hv15 j v d h1 h2 M).ex x17
    clear d15 hT15 hk15 hs15 hpv15 hla15 h16 hv15 e16 e17 x17 hpl0 hpls h1315
    refine ⟨pv, acc, rfl, .inr (.of hpv17), fun l18 hl18 => ?_⟩
    have e18 := Ex.new (o := .lst acc) hl18
    have h18 : upd H17 l18 (.lst acc) l18 = _ := upd_same
    generalize upd H17 l18 (.lst acc) = H18 at e18 h18 ⊢
    walk_at "w"
    rename_i l19 H19 hl19 e19 h19
    have hal : acc.length ≤ 5 := by omega
    obtain ⟨lst20, hlst20⟩ : ∃ l, l = acc ++ [V.ref pla, .ref pls] := ⟨_, rfl⟩
    have hlst : lst20.length = acc.length + 2 := by rw [hlst20]; simp
    refine r_cat (e19 _ _ h18) h19 (by simp; omega) fun l20 H20 hl20 e20 h20 => ?_
    rw [← hlst20] at h20
    have xe20 := (e18.trans e19).trans e20
    obtain ⟨m1, m2⟩ := (d17.keep (e18.trans e19)).fresh hl20
    have d20 := d17.keep xe20
    have hT20 := hT17.ext xe20
    have hk20 := xe20 _ _ hk17
    clear e18 e19 e20 hl18 hl19 h18 h19 hT17 d17 hk17
    walk_at "w"
    refine a_lcR (n := 4) rfl (by decide) (lcR (fun i acc D' H' => Deal H' D L ∧ LamX.Tabs [(P', qL)] H' ∧ H' pk = some (.lst kindsV) ∧ H' l20 = some (.lst lst20) ∧ Kt H20 H' ∧ ∃ es : List PyData, acc.length = es.length ∧ es.length = i ∧ (∀ (j : Nat) (v : V) (d : PyData), acc[j]? = some v → es[j]? = some d → Dv (D :: L :: [D']) H' v d) ∧ ∀ d ∈ es, nice 4 d = true)
      (fun D' H2 _ e _ => ⟨d20.keep e, hT20.ext e, e _ _ hk20, e _ _ h20, .of_ex e, [], rfl, rfl, by simp, by simp⟩) (fun i acc D' H' hi hlt hD hacc p => ?_) (fun nacc T21 H21 _ hT21 h21 p => ?_))
    · obtain ⟨d', hT', hk', hl', t', es, hl1, hl2, hv, hni⟩ := p
      obtain ⟨n1, n2⟩ := d20.fresh hD
      have n3 : pk ≠ D' := ne_of_none hk20 hD
      have n4 : l20 ≠ D' := ne_of_none h20 hD
      walk_at "w"
      refine ⟨D, L, pk, _, rfl, d', hk', nk1, nk2, by decide, by decide, fun j x H22 hx d22 k22 => ?_⟩
      obtain ⟨hj, rfl⟩ := kind_at hx
      have hT22 := tabs_kpD hT' k22 d'
      walk_at "w"
      refine ⟨D, L, j, wd, rfl, hj, w1, w2, d22, fun v dv H23 hdv _ hnv d23 k23 => ?_⟩
      have hT23 := tabs_kpD hT22 k23 d22
      have ha23 := k23.at (k22.at hacc (by simp [n1, n2])) (by simp [n1, n2])
      walk_at "w"
      refine ⟨D, L, [D'], v, dv, wd, rfl, w2, (fun a ha => by rw [List.mem_singleton.mp ha, ha23]; simp), hdv _, hnv, d23, fun v2 dv2 H24 hdv2 hnv2 d24 k24 => ?_⟩
      have hT24 := tabs_kpD hT23 k24 d23
      have ha24 := k24.at ha23 (by simp [n1, n2])
      have kk := (k22.trans k23).trans k24
      refine k_lc ha24 hlt (by omega) fun H25 h25 k25 => ⟨d24.kpm k25 n1 n2, tabs_mut hT24 k25 ha24, k25 _ _ n3 (kk.at hk' (by simp [nk1, nk2])), k25 _ _ n4 (kk.at hl' (by simp [m1, m2])), (t'.trans (.of_kp kk d')).trans (.of_mut k25 ha24), es ++ [dv2], by simp [hl1], by simp [hl2], ?_, ?_⟩
      · have kd : Kd (D :: L :: [D']) H24 H25 := ⟨Kt.of_mut k25 ha24, fun a xs h n => k25 _ _ (fun z => n (by simp [z])) h⟩
        exact snoc_rel hl1 (fun j v d h1 h2 => (Dv.kpDL (hv j v d h1 h2) kk d').keep kd) (hdv2.keep kd)
      · intro d hd
        rcases List.mem_append.mp hd with h | h
        · exact hni d h
        · rw [List.mem_singleton.mp h]; exact hnv2
    obtain ⟨d21, hT21', hk21, hl21, t21, es, hen1, hen2, hev, heni⟩ := p
    have hnl : nacc.length = 4 := by omega
    refine r_cat hl21 h21 (by rw [hlst, hnl]; omega) fun l26 H26 hl26 e26 h26 => ?_
    have d26 := d21.keep e26
    have hT26 := hT21'.ext e26
    have hk26 := e26 _ _ hk21
    have t26 : Kt H17 H26 := ((Kt.of_ex xe20).trans t21).trans (Kt.of_ex e26)
    have hs26 := t26 _ _ hs17
    have hpv26 := t26 _ _ hpv17
    have hla26 := t26 _ _ hla17
    have h1626 := t26 _ _ h1617
    have h1726 := t26 _ _ h17
    have hv26 : ∀ (j : Nat) (v : V) (d : PyData), acc[j]? = some v → ds[j]? = some d → ∀ M, Dv M H26 v d := fun j v d h1 h2 => Dv.allKt t26 d v (hv17 j v d h1 h2)
    have hall : ∀ x ∈ lst20 ++ nacc, ∃ d, Dv [D, L] H26 x d ∧ nice 4 d = true := by
      intro x hx
      rcases List.mem_append.mp hx with hx | hx
      · rw [hlst20] at hx
        rcases List.mem_append.mp hx with hx | hx
        · obtain ⟨j, hj⟩ := List.getElem?_of_mem hx
          obtain ⟨d, hd⟩ := get_of_len hl1 hj
          exact ⟨d, hv26 j x d hj hd _, nice.mono (hni d (List.mem_of_getElem? hd)) (by decide)⟩
        · simp only [List.mem_cons, List.not_mem_nil, or_false] at hx
          rcases hx with rfl | rfl
          · exact ⟨_, dv_rep (z := 0) hla26, nice_rep (by omega)⟩
          · exact ⟨_, dv_two h1726 (.str _) (dv_rep (z := 1) h1626), nice.tup (n := 3) (by simp) (fun d hd => by
              simp only [List.mem_cons, List.not_mem_nil, or_false] at hd
              rcases hd with rfl | rfl
              · decide +kernel
              · exact nice_rep (by omega))⟩
      · obtain ⟨j, hj⟩ := List.getElem?_of_mem hx
        obtain ⟨d, hd⟩ := get_of_len hen1 hj
        exact ⟨d, ((hev j x d hj hd).ex e26).sub (by simp), heni d (List.mem_of_getElem? hd)⟩
    clear d20 hT20 hk20 h20 xe20 d21 hT21' hk21 hl21 t21 hev heni t26 hv17 hs17 hpv17 hla17 h1617 h17 h21 hT21 e26 h1626 h1726 hla26 hlst20 hlst hl20
    -- each value
    refine k_forL (.of h26) (fun i σ' H' => LamX.ExtN H26 H' ∧ LamX.Tabs [(P', qL)] H' ∧ ∃ y3 y6 y8 y9 y10 y11 y12 y13 y14 y15 y16 y17 y18 y19 y20 y21, σ' = [some (.ref a), some (.ref D), some (.ref pk), y3, some (.int wd), some (.ref ps), y6, some (.ref pv), y8, y9, y10, y11, y12, y13, y14, y15, y16, y17, y18, y19, y20, y21])
      ⟨LamX.ExtN.refl _, hT26, _, _, _, _, _, _, _, _, _, _, _, _, _, _, _, _, rfl⟩ (fun i σ' H' _ p => .of (p.1 _ _ h26 (fun _ z => by cases z))) (fun i x σ' H' hx p => ?_) (fun σ' H' p => ?_)
    · obtain ⟨xn, hT, y3, y6, y8, y9, y10, y11, y12, y13, y14, y15, y16, y17, y18, y19, y20, y21, rfl⟩ := p
      obtain ⟨d, hd, hn⟩ := hall x (List.mem_of_getElem? hx)
      have hd1 := Dv.extN hd xn
      have hk1 := xn _ _ hk26 (fun _ z => by cases z)
      have hn60 := nice.mono hn (show 4 ≤ 60 by decide)
      have wid : isWid (.int (wd : Int)) = true := isWid_of w1 w2
      have ew : widOf (.int (wd : Int)) = wd := by simp [widOf]
      walk_at "w"
      refine k_lcL (.of hk1) (lcL (xs := kindsV) (fun i acc D' H'' => Ex H' H'' ∧ acc = ((List.range i).filter fun k => isOfD wd k d).map kindV) (fun D' H2 _ e _ => ⟨e, rfl⟩) (fun i acc D' H'' _ p => .of (p.1 _ _ hk1)) (fun i x' acc D' H'' hx' hlt hD hacc p => ?_) (fun acc F27 H27 _ hF27 h27 p => ?_))
      · obtain ⟨e, rfl⟩ := p
        obtain ⟨hi, rfl⟩ := kind_at hx'
        walk_at "w"
        refine ⟨[D, L], x, d, i, wd, rfl, hi, w2, hd1.ex e, hn, fun H3 e3 => ?_⟩
        walk_at "w"
        refine if_by (fun h => ?_) (fun h => ?_)
        · walk_at "w"
          refine k_lc (e3 _ _ hacc) hlt (by omega) fun H5 h5 k5 => ⟨Ex.mut (e.trans e3) hD k5, ?_⟩
          rw [filter_snoc, if_pos h, List.map_append]; rfl
        · refine k_lcN (e3 _ _ hacc) hlt ⟨e.trans e3, ?_⟩
          rw [filter_snoc, if_neg (by rw [h]; decide), List.append_nil]
      obtain ⟨e27, rfl⟩ := p
      change H27 F27 = some (.lst ((kindsOfD wd d).map kindV)) at h27
      have hd27 := hd1.ex e27
      have hT27 := hT.ext e27
      clear hd hd1 hk1
      walk_at "w"
      refine k_callK rfl ⟨[D, L], _, _, d, _, rfl, hd27, hn60, .int _, fun _ H28 e28 => ?_, fun hk => (by rw [wid] at hk; cases hk)⟩
      rw [ew]
      walk_at "w"
      rename_i p29 H29 hp29 e29 h29
      have h29f := (e28.trans e29) _ _ h27
      have hlk : (kindsOfD wd d).length ≤ 5 := by
        have := List.length_filter_le (fun k => isOfD wd k d) (List.range 5)
        simpa [kindsOfD] using this
      have hk5 : ∀ k ∈ kindsOfD wd d, k < 5 := fun k hk => by simpa using (List.mem_filter.mp hk).1
      have nkl : nice 60 (.list (kindsT (kindsOfD wd d))) = true := nice.lst (n := 59) (by simp [kindsT]; omega) (nice_kinds hk5)
      have nkt : nice 2 (.tuple (kindsT (kindsOfD wd d))) = true := nice.tup (n := 1) (by simp [kindsT]; omega) (nice_kinds hk5)
      refine r_neD2 (M := []) (dv_kindsL h29f) (dv_nilL h29) nkl (by decide +kernel) ?_
      rw [eqv_nil]
      walk_at "w"
      refine ⟨[], _, _, _, _, rfl, .bl _, .bl _, rfl, fun H30 e30 => ?_⟩
      have hbe : (kindsT (kindsOfD wd d)).isEmpty = (kindsOfD wd d).isEmpty := by simp [kindsT]
      rw [hbe, smD_refl 0 _ rfl]
      walk_at "w"
      refine if_df (by rfl) ?_
      walk_at "w"
      have e2730 := (e28.trans e29).trans e30
      have h30f := e2730 _ _ h27
      have hd30 := hd27.ex e2730
      have hT30 := hT27.ext e2730
      refine w_lam hT30 fun H31 e31 hT31 => ?_
      refine w_heard ?_
      try dsimp only []
      walk_at "w"
      have hd31 := Dv.extN hd30 e31
      have h31f := e31 _ _ h30f (fun _ z => by cases z)
      have xn31 : LamX.ExtN H26 H31 := (xn.trans (.of (e27.trans e2730))).trans e31
      by_cases hf : kindsOfD wd d = []
      · refine k_callK rfl ⟨[D, L], _, _, d, _, rfl, hd31, fun _ => hn60, .int _, (fun _ h0 => by rw [ew] at h0; exact absurd hf h0), (fun hk => by rw [wid] at hk; cases hk), fun _ _ => ?_⟩
        refine heard_err (tag := "question") (by simp [heardTags]) fun H32 e32 => ?_
        refine a_tup (by simp) fun p33 H33 hp33 e33 h33 => ?_
        walk_at "w"
        rename_i p34 H34 hp34 e34 h34
        refine r_neD2 (M := []) (dv_kindsL (((e32.trans e33).trans e34) _ _ h31f)) (dv_nilL h34) nkl (by decide +kernel) ?_
        rw [eqv_nil, hbe, hf]
        walk_at "w"
        refine if_df (by rfl) ?_
        walk_at "w"
        rename_i p35 H35 hp35 e35 h35
        refine ⟨[], .ref p33, .ref p35, _, _, rfl, dv_pair ((e34.trans e35) _ _ h33), dv_pair h35, by simp [okD], fun H36 e36 => ?_⟩
        rw [smD_refl 2 _ (by simp [okD])]
        walk_at "w"
        refine if_df (by rfl) ?_
        walk_at "w"
        have ee := (((e32.trans e33).trans e34).trans e35).trans e36
        exact ⟨xn31.trans (.of ee), hT31.ext ee, _, _, _, _, _, _, _, _, _, _, _, _, _, _, _, _, rfl⟩
      · refine k_callK rfl ⟨[D, L], _, _, d, _, rfl, hd31, fun _ => hn60, .int _, (fun _ _ p32 H32 e32 h32 => ?_), (fun hk => by rw [wid] at hk; cases hk), fun _ h0 => by rw [ew] at h0; exact absurd h0 hf⟩
        rw [ew] at h32
        refine a_tup (by simp) fun p33 H33 hp33 e33 h33 => ?_
        walk_at "w"
        rename_i p34 H34 hp34 e34 h34
        have h34f := ((e32.trans e33).trans e34) _ _ h31f
        refine r_neD2 (M := []) (dv_kindsL h34f) (dv_nilL h34) nkl (by decide +kernel) ?_
        rw [eqv_nil, hbe]
        walk_at "w"
        refine if_dt (by simpa using hf) ?_
        walk_at "w"
        refine ⟨F27, _, rfl, .inl ⟨.of h34f, fun p35 hp35 => ?_⟩⟩
        have e35 := Ex.new (o := .tup ((kindsOfD wd d).map kindV)) hp35
        have h35 : upd H34 p35 (.tup ((kindsOfD wd d).map kindV)) p35 = _ := upd_same
        generalize upd H34 p35 (.tup ((kindsOfD wd d).map kindV)) = H35 at e35 h35 ⊢
        walk_at "w"
        rename_i p36 H36 hp36 e36 h36
        refine ⟨[], .ref p33, .ref p36, _, _, rfl, dv_two (((e34.trans e35).trans e36) _ _ h33) (.str _) (dv_kindsT ((((e33.trans e34).trans e35).trans e36) _ _ h32)), dv_two h36 (.str _) (dv_kindsT (e36 _ _ h35)), ?_, fun H37 e37 => ?_⟩
        · exact nice.ok (nice.mono (nice.tup (n := 2) (by simp) (nice_two (by decide +kernel) nkt)) (by decide))
        rw [smD_refl 3 _ (nice.ok (nice.tup (n := 2) (by simp) (nice_two (by decide +kernel) nkt)))]
        walk_at "w"
        refine if_df (by rfl) ?_
        walk_at "w"
        have ee := ((((e32.trans e33).trans e34).trans e35).trans e36).trans e37
        exact ⟨xn31.trans (.of ee), hT31.ext ee, _, _, _, _, _, _, _, _, _, _, _, _, _, _, _, _, rfl⟩
    clear hall h26 hl26
    obtain ⟨xn, hT, y3, y6, y8, y9, y10, y11, y12, y13, y14, y15, y16, y17, y18, y19, y20, y21, rfl⟩ := p
    have hd27 := d26.extN xn
    have hk27 := xn _ _ hk26 (fun _ z => by cases z)
    have hs27 := xn _ _ hs26 (fun _ z => by cases z)
    have hpv27 := xn _ _ hpv26 (fun _ z => by cases z)
    have hv27 : ∀ (j : Nat) (v : V) (d : PyData), acc[j]? = some v → ds[j]? = some d → ∀ M, Dv M H' v d := fun j v d h1 h2 => Dv.allKt (kt_extN xn) d v (hv26 j v d h1 h2)
    clear xn hv26 d26 hT26 hk26 hs26 hpv26
    walk_at "w"
    refine w_disp fun pd HD hpd ed hd => ?_
    repeat (first | walk_at "w1" | with_reducible refine w_pair ?_ | with_reducible refine w_pairN ?_)
    rename_i t1 J1 ht1 f1 g1 t2 J2 ht2 f2 g2 t3 J3 ht3 f3 g3 t4 J4 ht4 f4 g4 t5 J5 ht5 f5 g5 t6 J6 ht6 f6 g6 t7 J7 ht7 f7 g7
    have f17 := (((((f1.trans f2).trans f3).trans f4).trans f5).trans f6).trans f7
    have f27 := ((((f2.trans f3).trans f4).trans f5).trans f6).trans f7
    have f37 := (((f3.trans f4).trans f5).trans f6).trans f7
    have f47 := ((f4.trans f5).trans f6).trans f7
    have f57 := (f5.trans f6).trans f7
    have f67 := f6.trans f7
    have v1 : ∀ M, Dv M J7 (.ref t1) (nothingD 1) := fun M => tupOne (f27 _ _ g1)
    have v3 : ∀ M, Dv M J7 (.ref t3) (nothingD 2) := fun M => tupTag (f47 _ _ g3) (f37 _ _ g2)
    have v5 : ∀ M, Dv M J7 (.ref t5) (nothingD 3) := fun M => tupTag (f67 _ _ g5) (f57 _ _ g4)
    have v7 : ∀ M, Dv M J7 (.ref t7) (nothingD 4) := fun M => tupTag g7 (f7 _ _ g6)
    refine k_disp [(.inr "word", .int 0), (.inr "array", .ref t1), (.inr "stack", .ref t3), (.inr "in", .ref t5), (.inr "out", .ref t7)] (f17 _ _ hd) rfl (by simp) fun HE kE hE => ?_
    have eE : Ex H' HE := Ex.mut (ed.trans f17) hpd kE
    have vE : ∀ {M v d}, Dv M J7 v d → Dv M HE v d := fun hv => hv.keep ⟨fun a xs h => kE _ _ (fun z => by rw [z, f17 _ _ hd] at h; cases h) h, fun a xs h _ => kE _ _ (fun z => by rw [z, f17 _ _ hd] at h; cases h) h⟩
    have v1 : ∀ M, Dv M HE (.ref t1) (nothingD 1) := fun M => vE (v1 M)
    have v3 : ∀ M, Dv M HE (.ref t3) (nothingD 2) := fun M => vE (v3 M)
    have v5 : ∀ M, Dv M HE (.ref t5) (nothingD 3) := fun M => vE (v5 M)
    have v7 : ∀ M, Dv M HE (.ref t7) (nothingD 4) := fun M => vE (v7 M)
    have dE := hd27.keep eE
    have hTE := hT.ext eE
    have hkE := eE _ _ hk27
    have hsE := eE _ _ hs27
    have hpvE := eE _ _ hpv27
    have hvE : ∀ (j : Nat) (v : V) (d : PyData), acc[j]? = some v → ds[j]? = some d → ∀ M, Dv M HE v d := fun j v d h1 h2 M => (hv27 j v d h1 h2 M).ex eE
    clear hd27 hT hk27 hs27 hpv27 hv27 eE vE kE f1 f2 f3 f4 f5 f6 f7 f17 f27 f37 f47 f57 f67 g1 g2 g3 g4 g5 g6 g7 ht1 ht2 ht3 ht4 ht5 ht6 ht7 ed hd hpd
    walk_at "w"
    refine k_lcT (.of hsE) (lcT (xs := ks.map kindV) (fun i acc D' H' => Ex HE H' ∧ acc = (ks.take i).map (noneV t1 t3 t5 t7)) (fun D' H2 _ e _ => ⟨e, rfl⟩) (fun i acc D' H' _ p => .of (p.1 _ _ hsE)) (fun i x acc D' H' hx' hlt hD hacc p => ?_) (fun acc T8 H8 _ hT8 h8 p => ?_))
    · obtain ⟨e, rfl⟩ := p
      obtain ⟨k, hk, rfl⟩ := map_some hx'
      have hi : i < ks.length := (List.getElem?_eq_some_iff.mp hk).1
      walk_at "w"
      refine w_dget ?_
      walk_at "w"
      refine ⟨pd, noneV t1 t3 t5 t7 k, rfl, .inl ⟨_, .inr (kindS k), .inl (e _ _ hE), rfl, ?_⟩, ?_⟩
      · rcases cases5 (h5k k (List.mem_of_getElem? hk)) with rfl | rfl | rfl | rfl | rfl <;> rfl
      refine k_lc hacc hlt (by omega) fun H5 h5 k5 => ⟨e.mut hD k5, ?_⟩
      rw [take_map_more hk]
    obtain ⟨e8, rfl⟩ := p
    rw [List.length_map, List.take_length] at h8
    refine ⟨T8, _, rfl, .inl ⟨.of h8, fun pe hpe => ?_⟩⟩
    have e9 := Ex.new (o := .tup (ks.map (noneV t1 t3 t5 t7))) hpe
    have h9 : upd H8 pe (.tup (ks.map (noneV t1 t3 t5 t7))) pe = _ := upd_same
    generalize upd H8 pe (.tup (ks.map (noneV t1 t3 t5 t7))) = H9 at e9 h9 ⊢
    have e89 := e8.trans e9
    have hem : ∀ M, Dv M H9 (.ref pe) (emptyD ks) := fun M' => .tup h9 (by simp) fun i v d h1 h2 => by
      obtain ⟨k, hk, rfl⟩ := map_some h1
      obtain ⟨k', hk', rfl⟩ := map_some h2
      rw [hk] at hk'; cases hk'
      have k5 := h5k k (List.mem_of_getElem? hk)
      refine Dv.ex e89 ?_
      rcases cases5 k5 with rfl | rfl | rfl | rfl | rfl
      · exact .int 0
      · exact v1 M'
      · exact v3 M'
      · exact v5 M'
      · exact v7 M'
    have d9 := dE.keep e89
    have hT9 := hTE.ext e89
    have hk9 := e89 _ _ hkE
    have hs9 := e89 _ _ hsE
    have hpv9 := e89 _ _ hpvE
    have hv9 : ∀ (j : Nat) (v : V) (d : PyData), acc[j]? = some v → ds[j]? = some d → ∀ M, Dv M H9 v d := fun j v d h1 h2 M => (hvE j v d h1 h2 M).ex e89
    clear dE hTE hkE hsE hpvE hvE v1 v3 v5 v7 hE e8 e9 e89 h9 h8 hT8 hpe
    -- near
    walk_at "w"
    refine r_slT1 hpv9 fun pn0 H10 e10 h10 => ?_
    walk_at "w"
    refine ⟨D, L, [], .int 0, .int 0, wd, rfl, w2, by simp, .int _, by decide +kernel, d9.keep e10, fun vn dn H11 hdn hnn d11 k11 => ?_⟩
    walk_at "w"
    rename_i p12 H12 hp12 e12 h12
    have t11 := Kt.of_kp k11 (d9.keep e10)
    refine r_catT1 (e12 _ _ (t11 _ _ h10)) h12 (by simp; omega) fun pn H13 e13 h13 => ?_
    have x13 := e12.trans e13
    have tt : Kt H9 H13 := ((Kt.of_ex e10).trans t11).trans (.of_ex x13)
    have d13 := d11.keep x13
    have hT13 := (tabs_kpD (hT9.ext e10) k11 (d9.keep e10)).ext x13
    have hk13 := x13 _ _ (k11.at (e10 _ _ hk9) (by simp [nk1, nk2]))
    have hs13 := tt _ _ hs9
    have hpv13 := tt _ _ hpv9
    have hem13 := Dv.allKt tt _ _ hem
    have hv13 : ∀ (j : Nat) (v : V) (d : PyData), acc[j]? = some v → ds[j]? = some d → ∀ M, Dv M H13 v d := fun j v d h1 h2 => Dv.allKt tt d v (hv9 j v d h1 h2)
    obtain ⟨xsn, dsn, hxn, hxl, hnl, hnv, hni4⟩ : ∃ (xs : List V) (dn' : List PyData), H13 pn = some (.tup xs) ∧ xs.length = dn'.length ∧ dn'.length ≤ 6 ∧ (∀ (j : Nat) (v : V) (d : PyData), xs[j]? = some v → dn'[j]? = some d → Dv [D, L] H13 v d) ∧ ∀ d ∈ dn', nice 4 d = true := by
      refine ⟨_, ds.dropLast ++ [dn], h13, by simp [hl1], by simp; omega, snoc_rel (by simp [hl1]) (fun j v d h1 h2 => hv13 j v d (get_dropLast h1) (get_dropLast h2) _) (hdn.ex x13), fun d hd => ?_⟩
      rcases List.mem_append.mp hd with h | h
      · exact nice.mono (hni d (List.dropLast_subset _ h)) (by decide)
      · rw [List.mem_singleton.mp h]; exact hnn
    clear d9 hT9 hk9 hs9 hpv9 hem hv9 e10 h10 hdn hnn d11 k11 hp12 e12 h12 t11 e13 h13 x13 tt
    have ew : widOf (.int (wd : Int)) = wd := by simp [widOf]
    have wid : isWid (.int (wd : Int)) = true := isWid_of w1 w2
    refine w_seq ?_
    refine w_cut (fun σ' H' => Ex H13 H' ∧ ∃ z3 z6 z8 z9 z10 z11 z12 z13 z17 z18 z19 z20 z21, σ' = [some (.ref a), some (.ref D), some (.ref pk), z3, some (.int wd), some (.ref ps), z6, some (.ref pv), z8, z9, z10, z11, z12, z13, some (.ref pe), some (.ref pn), some (.bl (fitD wd ks (.tuple dsn))), z17, z18, z19, z20, z21]) ?due2 (fun _ out => ?due1)
    case due1 =>
      walk_at "w"
      refine r_len (.inr (.of hxn)) rfl ?_
      walk_at "w"
      refine r_len (.inr (.of hs13)) rfl ?_
      walk_at "w"
      refine if_by (fun h => ?_) (fun h => ?_)
      · have hle : dsn.length = ks.length := by
          have h' : (xsn.length : Int) = ((ks.map kindV).length : Int) := of_decide_eq_true h
          rw [List.length_map] at h'
          omega
        walk_at "w"
        refine ⟨pn, ps, xsn, ks.map kindV, rfl, .inr ⟨.of hxn, .of hs13, ?_⟩⟩
        refine lcZT (by rw [List.length_map]; omega) (fun i acc D' H' => Ex H13 H' ∧ acc = ((((dsn.zip ks).take i).filter fun p => !isOfD wd p.2 p.1).map (·.2)).map kindV) (fun D' H3 _ e3 _ => ⟨e3, rfl⟩) (fun i acc D' H' _ p => ⟨.of (p.1 _ _ hxn), .of (p.1 _ _ hs13)⟩) (fun i x y acc D' H' T H3 hxi hyi hlt hD hacc p e3 hTT => ?_) (fun acc D' H' _ hD hacc p => ?_)
        · obtain ⟨e4, rfl⟩ := p
          obtain ⟨dx, hdx⟩ := get_of_len hxl hxi
          obtain ⟨k, hk, rfl⟩ := map_some hyi
          have hi : i < 90000 := by have h := (List.getElem?_eq_some_iff.mp hk).1; omega
          refine w_gtup (.of hTT) rfl ?_
          walk_at "w"
          refine ⟨[D, L], x, dx, k, wd, rfl, h5k k (List.mem_of_getElem? hk), w2, ((hnv i x dx hxi hdx).ex e4).ex e3, hni4 dx (List.mem_of_getElem? hdx), fun H6 e6 => ?_⟩
          walk_at "w"
          refine if_by (fun h => ?_) (fun h => ?_)
          · walk_at "w"
            refine k_lc (e6 _ _ hacc) hlt hi fun H5 h5 k5 => ⟨Ex.mut ((e4.trans e3).trans e6) hD k5, ?_⟩
            rw [zip_take_more hdx hk, List.filter_append, List.map_append, List.map_append, List.filter_cons_of_pos (by exact h)]; rfl
          · refine k_lcN (e6 _ _ hacc) hlt ⟨(e4.trans e3).trans e6, ?_⟩
            rw [zip_take_more hdx hk, List.filter_append, List.filter_cons_of_neg (by rw [show (!isOfD wd (dx, k).2 (dx, k).1) = !isOfD wd k dx from rfl, h]; decide)]; simp
        · obtain ⟨e4, rfl⟩ := p
          have ez : (dsn.zip ks).take xsn.length = dsn.zip ks := List.take_of_length_le (by rw [List.length_zip]; omega)
          rw [ez] at hacc
          walk_at "w"
          rename_i p5 H5 hp5 e5 h5
          have hk5 : ∀ k ∈ ((dsn.zip ks).filter fun p => !isOfD wd p.2 p.1).map (·.2), k < 5 := fun k hk => by
            obtain ⟨p, hp, rfl⟩ := List.mem_map.mp hk
            exact h5k _ (List.of_mem_zip (List.mem_filter.mp hp).1).2
          have hkl : (((dsn.zip ks).filter fun p => !isOfD wd p.2 p.1).map (·.2)).length ≤ 100 := by
            rw [List.length_map]
            have := List.length_filter_le (fun p => !isOfD wd p.2 p.1) (dsn.zip ks)
            rw [List.length_zip] at this
            omega
          refine r_eqD2 (M := []) (dv_kindsL (e5 _ _ hacc)) (dv_nilL h5) (nice.lst (n := 59) (by simp [kindsT] at hkl ⊢; omega) (nice_kinds hk5)) (by decide +kernel) ?_
          rw [eqv_nil]
          have hfe : (kindsT (((dsn.zip ks).filter fun p => !isOfD wd p.2 p.1).map (·.2))).isEmpty = fitD wd ks (.tuple dsn) := by
            simp only [fitD, hle, decide_true, Bool.true_and, kindsT]
            rw [isEmpty_map2, isEmpty_map2, isEmpty_filterN]
          rw [hfe]
          walk_at "w"
          exact out _ _ ⟨e4.trans e5, _, _, _, _, _, _, _, _, _, _, _, _, _, rfl⟩
      · have hle : dsn.length ≠ ks.length := by
          have h' : ¬ (xsn.length : Int) = ((ks.map kindV).length : Int) := of_decide_eq_false h
          rw [List.length_map] at h'
          omega
        walk_at "w"
        have hfal : fitD wd ks (.tuple dsn) = false := by simp [fitD, hle]
        rw [hfal] at out
        exact out _ _ ⟨fun _ _ h => h, _, _, _, _, _, _, _, _, _, _, _, _, _, rfl⟩
    case due2 =>
    intro σ' H14 hP1
    obtain ⟨e14, y3, y6, y8, y9, y10, y11, y12, y13, y17, y18, y19, y20, y21, rfl⟩ := hP1
    have d14 := d13.keep e14
    have hT14 := hT13.ext e14
    have hk14 := e14 _ _ hk13
    have hs14 := e14 _ _ hs13
    have hpv14 := e14 _ _ hpv13
    have hem14 : ∀ M, Dv M H14 (.ref pe) (emptyD ks) := fun M => (hem13 M).ex e14
    have hv14 : ∀ (j : Nat) (v : V) (d : PyData), acc[j]? = some v → ds[j]? = some d → ∀ M, Dv M H14 v d := fun j v d h1 h2 M => (hv13 j v d h1 h2 M).ex e14
    have hxn14 := e14 _ _ hxn
    have hnv14 : ∀ (j : Nat) (v : V) (d : PyData), xsn[j]? = some v → dsn[j]? = some d → Dv [D, L] H14 v d := fun j v d h1 h2 => (hnv j v d h1 h2).ex e14
    clear d13 hT13 hk13 hs13 hpv13 hem13 hv13 hxn hnv e14
    walk_at "w"
    -- fit and empty_of
    have hsl : ks.length ≤ 20 := by omega
    have hak : areKindsD (.tuple (kindsT ks)) = true := areKindsD_of hsl h5k
    have hfit : fitD wd ks (.tuple ds) = true := fit_true hl2 hof
    have nds : nice 60 (.tuple ds) = true := nice.mono (nice.tup (n := 3) (by omega) hni) (by decide)
    have dvv : ∀ {H' : Hp}, Ex H14 H' → ∀ M, Dv M H' (.ref pv) (.tuple ds) := fun e M => .tup (e _ _ hpv14) hl1 fun j v d h1 h2 => (hv14 j v d h1 h2 M).ex e
    have dvs : ∀ {H' : Hp}, Ex H14 H' → ∀ M, Dv M H' (.ref ps) (.tuple (kindsT ks)) := fun e M => dv_kindsT (e _ _ hs14)
    have rf : Ex H14 H14 := fun _ _ h => h
    refine k_callK rfl ⟨[D, L], _, _, _, _, _, _, rfl, dvv rf _, nds, dvs rf _, .int _, fun ks' he h5' _ _ H15 e15 => ?_, fun h => (by rw [hak] at h; cases h), fun _ h => (by rw [wid] at h; cases h)⟩
    obtain rfl := kindsT_inj h5k h5' (PyData.tuple.inj he)
    rw [ew, hfit]
    walk_at "w"
    have ndn : nice 60 (.tuple dsn) = true := nice.mono (nice.tup (n := 4) (by omega) hni4) (by decide)
    refine ⟨[D, L], .ref pn, _, _, .tuple dsn, _, _, rfl, .tup (e15 _ _ hxn14) hxl (fun j v d h1 h2 => (hnv14 j v d h1 h2).ex e15), ndn, dvs e15 _, .int _, fun ks' he h5' _ _ H16 e16 => ?_, fun h => (by rw [hak] at h; cases h), fun _ h => (by rw [wid] at h; cases h)⟩
    obtain rfl := kindsT_inj h5k h5' (PyData.tuple.inj he)
    rw [ew]
    have e1416 := e15.trans e16
    walk_at "w"
    refine ⟨pv, acc, rfl, .inr (.of (e1416 _ _ hpv14)), fun l17 hl17 => ?_⟩
    have e17 := Ex.new (o := .lst acc) hl17
    have h17 : upd H16 l17 (.lst acc) l17 = _ := upd_same
    generalize upd H16 l17 (.lst acc) = H17 at e17 h17 ⊢
    have e1417 := e1416.trans e17
    walk_at "w"
    have ndl : nice 60 (.list ds) = true := nice.mono (nice.lst (n := 3) (by omega) hni) (by decide)
    refine ⟨[], .ref l17, _, _, .list ds, _, _, rfl, .lst h17 (by simp) hl1 (fun j v d h1 h2 => (hv14 j v d h1 h2 []).ex e1417), ndl, dvs e1417 _, .int _, fun ks' he h5' _ _ H18 e18 => ?_, fun h => (by rw [hak] at h; cases h), fun _ h => (by rw [wid] at h; cases h)⟩
    have e1418 := e1417.trans e18
    walk_at "w"
    rename_i p19 H19 hp19 e19 h19
    have e1419 := e1418.trans e19
    refine r_catT1 (e1419 _ _ hpv14) h19 (by omega) fun p20 H20 e20 h20 => ?_
    have e1420 := e1419.trans e20
    walk_at "w"
    have ndm : nice 60 (.tuple (ds ++ [.int 0])) = true := nice.mono (nice.tup (n := 3) (by simp; omega) (fun d hd => by
      rcases List.mem_append.mp hd with h | h
      · exact hni d h
      · rw [List.mem_singleton.mp h]; exact nice.mk rfl rfl)) (by decide)
    refine ⟨[], .ref p20, _, _, .tuple (ds ++ [.int 0]), _, _, rfl, .tup h20 (by simp [hl1]) (snoc_rel hl1 (fun j v d h1 h2 => (hv14 j v d h1 h2 []).ex e1420) (.int 0)), ndm, dvs e1420 _, .int _, fun ks' he h5' _ _ H21 e21 => ?_, fun h => (by rw [hak] at h; cases h), fun _ h => (by rw [wid] at h; cases h)⟩
    obtain rfl := kindsT_inj h5k h5' (PyData.tuple.inj he)
    have hfl : fitD (widOf (.int (wd : Int))) ks (.tuple (ds ++ [.int 0])) = false := by simp [fitD, hl2]
    rw [hfl]
    have e1421 := e1420.trans e21
    walk_at "w"
    refine ⟨ps, ks.map kindV, rfl, .inr (.of (e1421 _ _ hs14)), fun l22 hl22 => ?_⟩
    have e22 := Ex.new (o := .lst (ks.map kindV)) hl22
    have h22 : upd H21 l22 (.lst (ks.map kindV)) l22 = _ := upd_same
    generalize upd H21 l22 (.lst (ks.map kindV)) = H22 at e22 h22 ⊢
    have e1422 := e1421.trans e22
    walk_at "w"
    refine ⟨[], _, .list (kindsT ks), rfl, dv_kindsL h22, (fun ds' he => by cases he; simp [kindsT]; omega), fun ks' he h5' _ v5 H23 e23 hv5 => ?_, fun h => (by rw [show seqKinds (.list (kindsT ks)) = areKindsD (.tuple (kindsT ks)) from rfl, hak] at h; cases h)⟩
    obtain rfl : ks = ks' := by
      rcases he with he | he
      · cases he
      · exact kindsT_inj h5k h5' (PyData.list.inj he)
    have e1423 := e1422.trans e23
    walk_at "w"
    refine k_callK rfl ⟨[], _, .tuple (kindsT ks), rfl, dvs e1423 _, (fun ds' he => by cases he), fun ks' he h5' _ v6 H24 e24 hv6 => ?_, fun h => (by rw [show seqKinds (.tuple (kindsT ks)) = areKindsD (.tuple (kindsT ks)) from rfl, hak] at h; cases h)⟩
    obtain rfl : ks = ks' := by
      rcases he with he | he
      · exact kindsT_inj h5k h5' (PyData.tuple.inj he)
      · cases he
    have e1424 := e1423.trans e24
    walk_at "w"
    rename_i p25 H25 hp25 e25 h25 p26 H26 hp26 e26 h26
    have e1426 := (e1424.trans e25).trans e26
    have hne : nice 3 (emptyD ks) = true := nice.tup (n := 2) (by simp; omega) fun d hd => by
      obtain ⟨k, hk, rfl⟩ := List.mem_map.mp hd
      rcases cases5 (h5k k hk) with rfl | rfl | rfl | rfl | rfl <;> decide +kernel
    have hok : okD 4 (.list [.bool true, .bool (fitD wd ks (.tuple dsn)), .bool false, .bool false, emptyD ks, emptyD ks]) = true := by
      have h3 := nice.ok hne
      simp [okD, h3]
    refine ⟨[], .ref p25, .ref p26, .list [.bool true, .bool (fitD wd ks (.tuple dsn)), .bool false, .bool false, emptyD ks, emptyD ks], .list [.bool true, .bool (fitD wd ks (.tuple dsn)), .bool false, .bool false, emptyD ks, emptyD ks], rfl, .lst (e26 _ _ h25) (by simp) rfl (fun i v d h1 h2 => ?_), .lst h26 (by simp) rfl (fun i v d h1 h2 => ?_), hok, fun H27 e27 => ?_⟩
    · rcases i with _ | _ | _ | _ | _ | _ | i
      · cases h1; cases h2; exact .bl _
      · cases h1; cases h2; exact .bl _
      · cases h1; cases h2; exact .bl _
      · cases h1; cases h2; exact .bl _
      · cases h1; cases h2; exact (hv5 _).ex ((e24.trans e25).trans e26)
      · cases h1; cases h2; exact (hv6 _).ex (e25.trans e26)
      · cases h1
    · rcases i with _ | _ | _ | _ | _ | _ | i
      · cases h1; cases h2; exact .bl _
      · cases h1; cases h2; exact .bl _
      · cases h1; cases h2; exact .bl _
      · cases h1; cases h2; exact .bl _
      · cases h1; cases h2; exact (hem14 _).ex e1426
      · cases h1; cases h2; exact (hem14 _).ex e1426
      · cases h1
    rw [smD_refl 4 _ hok]
    have e1427 := e1426.trans e27
    walk_at "w"
    refine if_df (by rfl) ?_
    walk_at "w"
    refine ⟨[], .ref pe, _, _, emptyD ks, _, _, rfl, (hem14 _).ex e1427, nice.mono hne (by decide), dvs e1427 _, .int _, fun ks' he h5' _ _ H28 e28 => ?_, fun h => (by rw [hak] at h; cases h), fun _ h => (by rw [wid] at h; cases h)⟩
    obtain rfl := kindsT_inj h5k h5' (PyData.tuple.inj he)
    rw [ew, fit_empty h5k]
    walk_at "w"
    refine ⟨[], _, _, _, _, rfl, .bl _, .bl _, rfl, fun H29 e29 => ?_⟩
    rw [smD_refl 0 _ rfl]
    walk_at "w"
    refine if_df (by rfl) ?_
    have e1429 := (e1427.trans e28).trans e29
    have d29 := d14.keep e1429
    have hT29 := hT14.ext e1429
    have hk29 := e1429 _ _ hk14
    have hs29 := e1429 _ _ hs14
    have hpv29 := e1429 _ _ hpv14
    have hv29 : ∀ (j : Nat) (v : V) (d : PyData), acc[j]? = some v → ds[j]? = some d → ∀ M, Dv M H29 v d := fun j v d h1 h2 M => (hv14 j v d h1 h2 M).ex e1429
    clear d14 hT14 hk14 hs14 hpv14 hv14 hem14 hxn14 hnv14 dvv dvs rf e15 e16 e1416 e17 e1417 e18 e1418 e19 e1419 e20 e1420 e21 e1421 e22 e1422 e23 e1423 e24 e1424 e25 e26 e1426 e27 e1427 e28 e29 e1429 h17 h19 h20 h22 h25 h26 hv5 hv6 hl17 hl22 hp19 hp25 hp26 hok hxl hnl hni4 ndn ndl ndm hfl
    walk_at "w"
    rename_i t30 H30 ht30 e30 h30 t31 H31 ht31 e31 h31
    refine r_repTW h31 (by decide) (by decide) fun t32 H32 ht32 e32 h32 => ?_
    walk_at "w"
    rename_i t33 H33 ht33 e33 h33 t34 H34 ht34 e34 h34 t35 H35 ht35 e35 h35 t36 H36 ht36 e36 h36 t37 H37 ht37 e37 h37
    have x37 := e36.trans e37
    have x35 := e35.trans x37
    have x34 := e34.trans x35
    have x33 := e33.trans x34
    have x32 := e32.trans x33
    have x31b := e31.trans x32
    have x30 := e30.trans x31b
    have d35 := d29.keep ((((e30.trans e31).trans e32).trans e33).trans e34)
    obtain ⟨m35, m35'⟩ := d35.fresh ht35
    have d36 := d29.keep ((((((e30.trans e31).trans e32).trans e33).trans e34).trans e35).trans e36)
    obtain ⟨m37, m37'⟩ := d36.fresh ht37
    have d37 := d36.keep e37
    refine ⟨D, L, t37, _, rfl, d37, h37, m37, m37', by simp, by simp, fun i38 xo H38 hx d38 k38 => ?_⟩
    obtain ⟨dO, hdo, hnO, hno, hsq, hfO⟩ : ∃ d, Dv [D, L] H37 xo d ∧ nice 4 d = true ∧ areKindsD d = false ∧ seqKinds d = false ∧ ∀ ds, d = .tuple ds → ∀ e ∈ ds, e = .none ∨ ∃ s, e = .str s := by
      have hm := List.mem_of_getElem? hx
      simp only [List.mem_cons, List.not_mem_nil, or_false] at hm
      rcases hm with rfl | rfl | rfl | rfl | rfl | rfl | rfl
      · exact ⟨.none, .non, by decide +kernel, rfl, rfl, fun ds h => by cases h⟩
      · exact ⟨.str "word", .str _, by decide +kernel, rfl, rfl, fun ds h => by cases h⟩
      · exact ⟨.tuple [.str "words"], dv_one (x31b _ _ h30) (.str _), by decide +kernel, by decide +kernel, by decide +kernel, fun ds h e he => by cases h; rw [List.mem_singleton.mp he]; exact .inr ⟨_, rfl⟩⟩
      · exact ⟨.tuple (List.replicate 21 (.str "word")), .tup (x33 _ _ h32) (by simp) (fun i v d h1 h2 => by
          rw [List.getElem?_replicate] at h1 h2
          split at h1
          · rw [if_pos (by assumption)] at h2; cases h1; cases h2; exact .str _
          · cases h1), by decide +kernel, by decide +kernel, by decide +kernel, fun ds h e he => by
            cases h; exact .inr ⟨_, (List.mem_replicate.mp he).2⟩⟩
      · exact ⟨.tuple [.str "word", .none], dv_two (x34 _ _ h33) (.str _) .non, by decide +kernel, by decide +kernel, by decide +kernel, fun ds h e he => by
          cases h
          simp only [List.mem_cons, List.not_mem_nil, or_false] at he
          rcases he with rfl | rfl
          · exact .inr ⟨_, rfl⟩
          · exact .inl rfl⟩
      · exact ⟨.list [.tuple [.str "word"]], dv_lone (x37 _ _ h35) (by simp [m35, m35']) (dv_one (x35 _ _ h34) (.str _)), by decide +kernel, rfl, by decide +kernel, fun ds h => by cases h⟩
      · exact ⟨.tuple [.str "channel"], dv_one (e37 _ _ h36) (.str _), by decide +kernel, by decide +kernel, by decide +kernel, fun ds h e he => by cases h; rw [List.mem_singleton.mp he]; exact .inr ⟨_, rfl⟩⟩
    have hdo38 : Dv [D, L] H38 xo dO := Dv.kpDL hdo k38 d37
    have tt : Kt H29 H38 := (Kt.of_ex x30).trans (.of_kp k38 d37)
    have hT38 := tabs_kpD (hT29.ext x30) k38 d37
    have hk38 := k38.at (x30 _ _ hk29) (by simp [nk1, nk2])
    have hs38 := tt _ _ hs29
    have hpv38 := tt _ _ hpv29
    have hv38 : ∀ (j : Nat) (v : V) (d : PyData), acc[j]? = some v → ds[j]? = some d → ∀ M, Dv M H38 v d := fun j v d h1 h2 => Dv.allKt tt d v (hv29 j v d h1 h2)
    clear d29 hT29 hk29 hs29 hpv29 hv29 hx hdo d35 d36 d37 k38 tt x30 x31b x32 x33 x34 x35 x37 e30 e31 e32 e33 e34 e35 e36 e37 h30 h31 h32 h33 h34 h35 h36 h37 ht30 ht31 ht32 ht33 ht34 ht35 ht36 ht37 m35 m35' m37 m37'
    refine w_seq ?_
    refine w_cut (fun σ' H' => Ex H38 H' ∧ ∃ z3 z6 z8 z9 z10 z11 z12 z13 z14 z15 z16 z17 z18 z21, σ' = [some (.ref a), some (.ref D), some (.ref pk), z3, some (.int wd), some (.ref ps), z6, some (.ref pv), z8, z9, z10, z11, z12, z13, z14, z15, z16, z17, z18, some xo, some (.bl false), z21]) ?r2 (fun _ out => ?r1)
    case r1 =>
      walk_at "w"
      refine r_isiTup hdo38 ?_
      walk_at "w"
      refine if_by (fun h => ?_) (fun h => ?_)
      · obtain ⟨os, rfl⟩ : ∃ os, dO = .tuple os := by cases dO <;> simp [isTup] at h ⊢
        obtain ⟨b, ys, rfl, hb, hlb, hty⟩ := hdo38.tup_inv
        have hfl := hfO os rfl
        walk_at "w"
        refine r_len (.inr (.of hb)) rfl ?_
        walk_at "w"
        refine if_by (fun h => ?_) (fun h => ?_)
        · have ho20 : os.length ≤ 20 := by have h' := of_decide_eq_true h; omega
          walk_at "w"
          refine k_lcT (.of hb) (lcT (xs := ys) (fun i acc D' H' => Ex H38 H' ∧ ∃ zs, acc.length = zs.length ∧ (∀ (j : Nat) (v : V) (d : PyData), acc[j]? = some v → zs[j]? = some d → Dv [D, L] H38 v d) ∧ zs = (os.take i).filter (fun d => !isKindD d)) (fun D' H2 _ e _ => ⟨e, [], rfl, by simp, rfl⟩) (fun i acc D' H' _ p => .of (p.1 _ _ hb)) (fun i x acc D' H' hx' hlt hD hacc p => ?_) (fun acc D' H' _ hD hacc p => ?_))
          · obtain ⟨e, zs, hzl, hz, hzs⟩ := p
            obtain ⟨y, hy⟩ := get_of_len hlb hx'
            have hi : i < os.length := (List.getElem?_eq_some_iff.mp hy).1
            have dx := hty i x y hx' hy
            have hin : flatV x = true ∧ inV x kindsV = isKindD y := by
              rcases hfl y (List.mem_of_getElem? hy) with rfl | ⟨s, rfl⟩
              · cases dx; exact ⟨rfl, rfl⟩
              · cases dx; exact ⟨rfl, rfl⟩
            walk_at "w"
            refine r_notin (.inl (.of (e _ _ hk38))) hin.1 (by rfl) ?_
            rw [hin.2]
            walk_at "w"
            refine if_by (fun h => ?_) (fun h => ?_)
            · walk_at "w"
              refine k_lc hacc hlt (by omega) fun H5 h5 k5 => ⟨e.mut hD k5, zs ++ [y], by simp [hzl], snoc_rel hzl hz dx, ?_⟩
              rw [hzs, filter_take hy, if_pos h]
            · refine k_lcN hacc hlt ⟨e, zs, hzl, hz, ?_⟩
              rw [hzs, filter_take hy, if_neg (by rw [h]; decide), List.append_nil]
          · obtain ⟨e, zs, hzl, hz, hzs⟩ := p
            walk_at "w"
            rename_i p5 H5 hp5 e5 h5
            rw [hlb, List.take_length] at hzs
            have hnz : ∀ z ∈ zs, nice 3 z = true := fun z h => by
              rw [hzs] at h
              exact nice.tup_in hnO (List.mem_filter.mp h).1
            have hzl2 : zs.length ≤ 90000 := by
              have := List.length_filter_le (fun d => !isKindD d) os
              rw [hzs]; omega
            refine r_eqD (.lst (.of (e5 _ _ hacc)) (dpAll_of hzl fun i v d h1 h2 => ((hz i v d h1 h2).ex (e.trans e5)).dp)) (.lst (.of h5) .nil) (nice.shaped (n := 4) (nice.lst hzl2 hnz) (by decide)) (by rfl) ?_
            have hfe : zs.isEmpty = false := by
              rw [hzs, isEmpty_filterN]
              have h2 : areKindsD (.tuple os) = (decide (os.length ≤ 20) && os.all isKindD) := rfl
              rw [h2, decide_eq_true ho20, Bool.true_and] at hno
              exact hno
            rw [eqv_nil, hfe]
            walk_at "w"
            exact out _ _ ⟨e.trans e5, _, _, _, _, _, _, _, _, _, _, _, _, _, _, rfl⟩
        · walk_at "w"
          exact out _ _ ⟨fun _ _ h => h, _, _, _, _, _, _, _, _, _, _, _, _, _, _, rfl⟩
      · walk_at "w"
        exact out _ _ ⟨fun _ _ h => h, _, _, _, _, _, _, _, _, _, _, _, _, _, _, rfl⟩
    case r2 =>
    intro σ' H39 hP1
    obtain ⟨e39, y3, y6, y8, y9, y10, y11, y12, y13, y14, y15, y16, y17, y18, y21, rfl⟩ := hP1
    -- kinds told
    walk_at "w"
    refine k_callK rfl ⟨[D, L], xo, dO, rfl, hdo38.ex e39, fun H40 e40 => ?_⟩
    rw [hno]
    have x40 := e39.trans e40
    walk_at "w"
    refine ⟨[], _, .tuple (kindsT ks), rfl, dv_kindsT (x40 _ _ hs38), fun H41 e41 => ?_⟩
    rw [hak]
    have x41 := x40.trans e41
    walk_at "w"
    refine ⟨ps, ks.map kindV, rfl, .inr (.of (x41 _ _ hs38)), fun l42 hl42 => ?_⟩
    have e42 := Ex.new (o := .lst (ks.map kindV)) hl42
    have h42 : upd H41 l42 (.lst (ks.map kindV)) l42 = _ := upd_same
    generalize upd H41 l42 (.lst (ks.map kindV)) = H42 at e42 h42 ⊢
    walk_at "w"
    refine ⟨[], _, .list (kindsT ks), rfl, dv_kindsL h42, fun H43 e43 => ?_⟩
    rw [show areKindsD (.list (kindsT ks)) = false from rfl]
    have x43 := (x41.trans e42).trans e43
    walk_at "w"
    refine ⟨D, L, pk, _, rfl, d38.keep x43, x43 _ _ hk38, nk1, nk2, by decide, by decide, fun j xk H44 hx d44 k44 => ?_⟩
    obtain ⟨hj, rfl⟩ := kind_at hx
    walk_at "w"
    refine ⟨[], _, .str (kindS j), rfl, .str _, ?_⟩
    rw [isKindD_of hj]
    walk_at "w"
    rename_i t45 H45 ht45 e45 h45 t46 H46 ht46 e46 h46
    have d45 := d44.keep e45
    obtain ⟨m46, m46'⟩ := d45.fresh ht46
    refine ⟨D, L, t46, _, rfl, d45.keep e46, h46, m46, m46', by simp, by simp, fun i47 xn H47 hx2 d47 k47 => ?_⟩
    obtain ⟨dN, hdN, hkN⟩ : ∃ d, Dv [D, L] H47 xn d ∧ isKindD d = false := by
      have hm := List.mem_of_getElem? hx2
      simp only [List.mem_cons, List.not_mem_nil, or_false] at hm
      rcases hm with rfl | rfl | rfl | rfl | rfl | rfl
      · exact ⟨.str "Word", .str _, by decide +kernel⟩
      · exact ⟨.str "", .str _, by decide +kernel⟩
      · exact ⟨.none, .non, rfl⟩
      · exact ⟨.int 3, .int _, rfl⟩
      · exact ⟨.tuple [.str "word"], Dv.kpDL (M := []) (dv_one (e46 _ _ h45) (.str _)) k47 (d45.keep e46), rfl⟩
      · exact ⟨.str "channel", .str _, by decide +kernel⟩
    walk_at "w"
    refine k_callK rfl ⟨[D, L], xn, dN, rfl, hdN, ?_⟩
    rw [hkN]
    walk_at "w"
    rename_i p48 H48 hp48 e48 h48 p49 H49 hp49 e49 h49
    refine ⟨[], .ref p48, .ref p49, .list [.bool false, .bool true, .bool false, .bool true, .bool false], .list [.bool false, .bool true, .bool false, .bool true, .bool false], rfl, dv_bls (bs := [false, true, false, true, false]) (e49 _ _ h48), dv_bls (bs := [false, true, false, true, false]) h49, by decide +kernel, fun H50 e50 => ?_⟩
    rw [smD_refl 1 _ (by decide +kernel)]
    walk_at "w"
    refine if_df (by rfl) ?_
    have dA := d38.keep x43
    have dB := d45.keep e46
    have xA := e45.trans e46
    have xB := (e48.trans e49).trans e50
    have tt : Kt H38 H50 := ((((Kt.of_ex x43).trans (.of_kp k44 dA)).trans (.of_ex xA)).trans (.of_kp k47 dB)).trans (.of_ex xB)
    have d50 := d47.keep xB
    have hT50 := (tabs_kpD ((tabs_kpD (hT38.ext x43) k44 dA).ext xA) k47 dB).ext xB
    have hk50 := xB _ _ (k47.at (xA _ _ (k44.at (x43 _ _ hk38) (by simp [nk1, nk2]))) (by simp [nk1, nk2]))
    have hs50 := tt _ _ hs38
    have hpv50 := tt _ _ hpv38
    have hv50 : ∀ (j : Nat) (v : V) (d : PyData), acc[j]? = some v → ds[j]? = some d → ∀ M, Dv M H50 v d := fun j v d h1 h2 => Dv.allKt tt d v (hv38 j v d h1 h2)
    have hdo50 : Dv [D, L] H50 xo dO := (Dv.kpDL (M := []) ((Dv.kpDL (M := []) (hdo38.ex x43) k44 dA).ex xA) k47 dB).ex xB
    clear d38 hT38 hk38 hs38 hpv38 hv38 hdo38 tt e39 e40 x40 e41 x41 e42 e43 x43 hx d44 k44 e45 h45 e46 h46 hx2 d45 d47 k47 e48 h48 e49 h49 e50 dA dB xA xB hp48 hp49 ht45 ht46 m46 m46' hl42 h42 hdN
    walk_at "w"
    rename_i p51 H51 hp51 e51 h51
    obtain ⟨n1, n2⟩ := d50.fresh hp51
    refine ⟨D, L, p51, _, rfl, d50.keep e51, h51, n1, n2, by simp, by simp, fun i52 xb H52 hx d52 k52 => ?_⟩
    obtain ⟨db, hdb, hnb⟩ : ∃ d, (∀ M H, Dv M H xb d) ∧ isWid d = false := by
      have hm := List.mem_of_getElem? hx
      simp only [List.mem_cons, List.not_mem_nil, or_false] at hm
      rcases hm with rfl | rfl | rfl | rfl
      · exact ⟨.int 0, fun _ _ => .int _, by decide⟩
      · exact ⟨.int 65, fun _ _ => .int _, by decide⟩
      · exact ⟨.none, fun _ _ => .non, by decide⟩
      · exact ⟨.bool true, fun _ _ => .bl _, by decide⟩
    have dA := d50.keep e51
    have tt : Kt H50 H52 := (Kt.of_ex e51).trans (.of_kp k52 dA)
    have d31 := d52
    have hT31 := tabs_kpD (hT50.ext e51) k52 dA
    have hk31 := k52.at (e51 _ _ hk50) (by simp [nk1, nk2])
    have hs31 := tt _ _ hs50
    have hpv31 := tt _ _ hpv50
    have hv31 : ∀ (j : Nat) (v : V) (d : PyData), acc[j]? = some v → ds[j]? = some d → ∀ M, Dv M H52 v d := fun j v d h1 h2 => Dv.allKt tt d v (hv50 j v d h1 h2)
    have hdo31 : Dv [D, L] H52 xo dO := Dv.kpDL (M := []) (hdo50.ex e51) k52 dA
    clear d50 hT50 hk50 hs50 hpv50 hv50 hdo50 hx d52 k52 e51 h51 hp51 n1 n2 dA tt
    -- heard, 1
    walk_at "w"
    refine w_lam hT31 fun H32 e32 hT32 => ?_
    refine w_heard ?_
    try dsimp only []
    walk_at "w"
    refine ⟨[], _, _, .int 0, db, rfl, .int _, by decide +kernel, hdb _ _, fun hk => (by rw [hnb] at hk; cases hk), fun _ => ?_⟩
    refine heard_err (tag := "word") (by simp [heardTags]) fun H33 e33 => ?_
    refine a_tup (by simp) fun q1 H34 hqn e34 hq1 => ?_
    walk_at "w"
    rename_i S K1 hS e35 hS35
    have x35 := (e33.trans e34).trans e35
    have xn35 := e32.trans (.of x35)
    have d35 := (d31.extN e32).keep x35
    have hT35 := hT32.ext x35
    replace hq1 := e35 _ _ hq1
    obtain ⟨nS1, nS2⟩ := ((d31.extN e32).keep (e33.trans e34)).fresh hS
    have nSk : pk ≠ S := fun z => by
      have h := (e33.trans e34) _ _ (e32 _ _ hk31 (fun _ z => by cases z))
      rw [z, hS] at h; cases h
    have hk35 := xn35 _ _ hk31 (fun _ z => by cases z)
    have hs35 := xn35 _ _ hs31 (fun _ z => by cases z)
    have hpv35 := xn35 _ _ hpv31 (fun _ z => by cases z)
    have hv35 : ∀ (j : Nat) (v : V) (d : PyData), acc[j]? = some v → ds[j]? = some d → ∀ M, Dv M K1 v d := fun j v d h1 h2 => Dv.allKt (kt_extN xn35) d v (hv31 j v d h1 h2)
    have hdo35 : Dv (S :: [D, L]) K1 xo dO := (Dv.add ((Dv.extN hdo31 e32).ex (e33.trans e34)) hS).ex e35
    clear e32 e33 e34 e35 hT32 hqn hS x35 xn35 d31 hT31 hk31 hs31 hpv31 hv31 hdo31
    have hT31 := hT35
    have d31 := d35
    have hS31 := hS35
    have hk31 := hk35
    have hs31 := hs35
    have hpv31 := hpv35
    have hv31 := hv35
    have hdo31 := hdo35
    clear hT35 d35 hS35 hk35 hs35 hpv35 hv35 hdo35
    walk_at "w"
    -- heard, 2
    refine ty_and (ty_list hS31) ?_
    walk_at "w"
    refine w_lam hT31 fun H32 e32 hT32 => ?_
    refine w_heard ?_
    try dsimp only []
    walk_at "w"
    refine ⟨[], _, _, .none, db, rfl, .non, fun hk => (by rw [hnb] at hk; cases hk), hdb _ _, fun hk => (by rw [hnb] at hk; cases hk), fun _ => ?_, fun hk => (by rw [hnb] at hk; cases hk)⟩
    refine heard_err (tag := "word") (by simp [heardTags]) fun H33 e33 => ?_
    refine a_tup (by simp) fun q2 H34 hqn e34 hq2 => ?_
    walk_at "w"
    have x34 := e33.trans e34
    have xn34 := e32.trans (.of x34)
    have hSa := xn34 _ _ hS31 (fun _ z => by cases z)
    have hTa := hT32.ext x34
    have da := (d31.extN e32).keep x34
    refine r_append hSa (by simp) fun K2 k35 hS35 => ?_
    have t35 : Kt K1 K2 := (kt_extN xn34).trans (.of_kp1 k35 hSa)
    have hT35 := tabs_kp1 hTa k35 hSa
    have d35 := da.kp1 k35 nS1 nS2
    have hk35 := k35.at (xn34 _ _ hk31 (fun _ z => by cases z)) (by simpa using nSk)
    have hs35 := t35 _ _ hs31
    have hpv35 := t35 _ _ hpv31
    have hv35 : ∀ (j : Nat) (v : V) (d : PyData), acc[j]? = some v → ds[j]? = some d → ∀ M, Dv M K2 v d := fun j v d h1 h2 => Dv.allKt t35 d v (hv31 j v d h1 h2)
    have hdo35 : Dv (S :: [D, L]) K2 xo dO := (Dv.extN hdo31 xn34).keep ⟨Kt.of_kp1 k35 hSa, fun a xs h n => k35 a _ h (fun z => n (by rw [List.mem_singleton.mp z]; exact List.mem_cons_self))⟩
    replace hq1 := t35 _ _ hq1
    replace hq2 := Kt.of_kp1 k35 hSa _ _ hq2
    clear hT31 d31 hS31 hk31 hs31 hpv31 hv31 hdo31 e32 e33 e34 x34 xn34 hT32 hSa hTa da k35 hqn t35
    have hT31 := hT35
    have d31 := d35
    have hS31 := hS35
    have hk31 := hk35
    have hs31 := hs35
    have hpv31 := hpv35
    have hv31 := hv35
    have hdo31 := hdo35
    clear hT35 d35 hS35 hk35 hs35 hpv35 hv35 hdo35
    walk_at "w"
    -- heard, 3
    refine ty_and (ty_list hS31) ?_
    walk_at "w"
    refine w_lam hT31 fun H32 e32 hT32 => ?_
    refine w_heard ?_
    try dsimp only []
    walk_at "w"
    refine ⟨S :: [D, L], _, _, _, .tuple ds, dO, db, rfl, .tup (e32 _ _ hpv31 (fun _ z => by cases z)) hl1 (fun j v d h1 h2 => Dv.extN (hv31 j v d h1 h2 _) e32), nds, Dv.extN hdo31 e32, hdb _ _, (fun ks' he h5' hl' _ => (by rw [he, areKindsD_of hl' h5'] at hno; cases hno)), fun _ => ?_, fun h => (by rw [hno] at h; cases h)⟩
    refine heard_err (tag := "question") (by simp [heardTags]) fun H33 e33 => ?_
    refine a_tup (by simp) fun q3 H34 hqn e34 hq3 => ?_
    walk_at "w"
    have x34 := e33.trans e34
    have xn34 := e32.trans (.of x34)
    have hSa := xn34 _ _ hS31 (fun _ z => by cases z)
    have hTa := hT32.ext x34
    have da := (d31.extN e32).keep x34
    refine r_append hSa (by simp) fun K3 k35 hS35 => ?_
    have t35 : Kt K2 K3 := (kt_extN xn34).trans (.of_kp1 k35 hSa)
    have hT35 := tabs_kp1 hTa k35 hSa
    have d35 := da.kp1 k35 nS1 nS2
    have hk35 := k35.at (xn34 _ _ hk31 (fun _ z => by cases z)) (by simpa using nSk)
    have hs35 := t35 _ _ hs31
    have hpv35 := t35 _ _ hpv31
    have hv35 : ∀ (j : Nat) (v : V) (d : PyData), acc[j]? = some v → ds[j]? = some d → ∀ M, Dv M K3 v d := fun j v d h1 h2 => Dv.allKt t35 d v (hv31 j v d h1 h2)
    have hdo35 : Dv (S :: [D, L]) K3 xo dO := (Dv.extN hdo31 xn34).keep ⟨Kt.of_kp1 k35 hSa, fun a xs h n => k35 a _ h (fun z => n (by rw [List.mem_singleton.mp z]; exact List.mem_cons_self))⟩
    replace hq1 := t35 _ _ hq1
    replace hq2 := t35 _ _ hq2
    replace hq3 := Kt.of_kp1 k35 hSa _ _ hq3
    clear hT31 d31 hS31 hk31 hs31 hpv31 hv31 hdo31 e32 e33 e34 x34 xn34 hT32 hSa hTa da k35 hqn t35
    have hT31 := hT35
    have d31 := d35
    have hS31 := hS35
    have hk31 := hk35
    have hs31 := hs35
    have hpv31 := hpv35
    have hv31 := hv35
    have hdo31 := hdo35
    clear hT35 d35 hS35 hk35 hs35 hpv35 hv35 hdo35
    walk_at "w"
    -- heard, 4
    refine ty_and (ty_list hS31) ?_
    walk_at "w"
    refine w_lam hT31 fun H32 e32 hT32 => ?_
    refine w_heard ?_
    try dsimp only []
    walk_at "w"
    refine ⟨[], _, _, _, .tuple ds, .tuple (kindsT ks), db, rfl, .tup (e32 _ _ hpv31 (fun _ z => by cases z)) hl1 (fun j v d h1 h2 => Dv.extN (hv31 j v d h1 h2 _) e32), nds, dv_kindsT (e32 _ _ hs31 (fun _ z => by cases z)), hdb _ _, (fun ks' he h5' hl' hw => (by rw [hnb] at hw; cases hw)), fun h => (by rw [hak] at h; cases h), fun _ _ => ?_⟩
    refine heard_err (tag := "word") (by simp [heardTags]) fun H33 e33 => ?_
    refine a_tup (by simp) fun q4 H34 hqn e34 hq4 => ?_
    walk_at "w"
    have x34 := e33.trans e34
    have xn34 := e32.trans (.of x34)
    have hSa := xn34 _ _ hS31 (fun _ z => by cases z)
    have hTa := hT32.ext x34
    have da := (d31.extN e32).keep x34
    refine r_append hSa (by simp) fun K4 k35 hS35 => ?_
    have t35 : Kt K3 K4 := (kt_extN xn34).trans (.of_kp1 k35 hSa)
    have hT35 := tabs_kp1 hTa k35 hSa
    have d35 := da.kp1 k35 nS1 nS2
    have hk35 := k35.at (xn34 _ _ hk31 (fun _ z => by cases z)) (by simpa using nSk)
    have hs35 := t35 _ _ hs31
    have hpv35 := t35 _ _ hpv31
    have hv35 : ∀ (j : Nat) (v : V) (d : PyData), acc[j]? = some v → ds[j]? = some d → ∀ M, Dv M K4 v d := fun j v d h1 h2 => Dv.allKt t35 d v (hv31 j v d h1 h2)
    have hdo35 : Dv (S :: [D, L]) K4 xo dO := (Dv.extN hdo31 xn34).keep ⟨Kt.of_kp1 k35 hSa, fun a xs h n => k35 a _ h (fun z => n (by rw [List.mem_singleton.mp z]; exact List.mem_cons_self))⟩
    replace hq1 := t35 _ _ hq1
    replace hq2 := t35 _ _ hq2
    replace hq3 := t35 _ _ hq3
    replace hq4 := Kt.of_kp1 k35 hSa _ _ hq4
    clear hT31 d31 hS31 hk31 hs31 hpv31 hv31 hdo31 e32 e33 e34 x34 xn34 hT32 hSa hTa da k35 hqn t35
    have hT31 := hT35
    have d31 := d35
    have hS31 := hS35
    have hk31 := hk35
    have hs31 := hs35
    have hpv31 := hpv35
    have hv31 := hv35
    have hdo31 := hdo35
    clear hT35 d35 hS35 hk35 hs35 hpv35 hv35 hdo35
    walk_at "w"
    -- heard, 5
    refine ty_and (ty_list hS31) ?_
    walk_at "w"
    refine w_lam hT31 fun H32 e32 hT32 => ?_
    refine w_heard ?_
    try dsimp only []
    walk_at "w"
    refine ⟨S :: [D, L], xo, dO, rfl, Dv.extN hdo31 e32, (fun ds' he => by subst he; exact nice_lst_len hnO), fun ks' he h5' hl' _ _ _ _ => ?bad, fun _ => ?_⟩
    case bad =>
      rcases he with he | he
      · rw [he, show seqKinds (.tuple (kindsT ks')) = areKindsD (.tuple (kindsT ks')) from rfl, areKindsD_of hl' h5'] at hsq; cases hsq
      · rw [he, show seqKinds (.list (kindsT ks')) = areKindsD (.tuple (kindsT ks')) from rfl, areKindsD_of hl' h5'] at hsq; cases hsq
    refine heard_err (tag := "question") (by simp [heardTags]) fun H33 e33 => ?_
    refine a_tup (by simp) fun q5 H34 hqn e34 hq5 => ?_
    walk_at "w"
    have x34 := e33.trans e34
    have xn34 := e32.trans (.of x34)
    have hSa := xn34 _ _ hS31 (fun _ z => by cases z)
    have hTa := hT32.ext x34
    have da := (d31.extN e32).keep x34
    refine r_append hSa (by simp) fun K5 k35 hS35 => ?_
    have t35 : Kt K4 K5 := (kt_extN xn34).trans (.of_kp1 k35 hSa)
    have hT35 := tabs_kp1 hTa k35 hSa
    have d35 := da.kp1 k35 nS1 nS2
    have hk35 := k35.at (xn34 _ _ hk31 (fun _ z => by cases z)) (by simpa using nSk)
    have hs35 := t35 _ _ hs31
    have hpv35 := t35 _ _ hpv31
    have hv35 : ∀ (j : Nat) (v : V) (d : PyData), acc[j]? = some v → ds[j]? = some d → ∀ M, Dv M K5 v d := fun j v d h1 h2 => Dv.allKt t35 d v (hv31 j v d h1 h2)
    have hdo35 : Dv (S :: [D, L]) K5 xo dO := (Dv.extN hdo31 xn34).keep ⟨Kt.of_kp1 k35 hSa, fun a xs h n => k35 a _ h (fun z => n (by rw [List.mem_singleton.mp z]; exact List.mem_cons_self))⟩
    replace hq1 := t35 _ _ hq1
    replace hq2 := t35 _ _ hq2
    replace hq3 := t35 _ _ hq3
    replace hq4 := t35 _ _ hq4
    replace hq5 := Kt.of_kp1 k35 hSa _ _ hq5
    clear hT31 d31 hS31 hk31 hs31 hpv31 hv31 hdo31 e32 e33 e34 x34 xn34 hT32 hSa hTa da k35 hqn t35
    have hT31 := hT35
    have d31 := d35
    have hS31 := hS35
    have hk31 := hk35
    have hs31 := hs35
    have hpv31 := hpv35
    have hv31 := hv35
    have hdo31 := hdo35
    clear hT35 d35 hS35 hk35 hs35 hpv35 hv35 hdo35
    walk_at "w"
    walk_at "w"
    rename_i t1 J1 ht1 f1 g1 t2 J2 ht2 f2 g2 t3 J3 ht3 f3 g3 t4 J4 ht4 f4 g4 t5 J5 ht5 f5 g5 t6 J6 ht6 f6 g6
    have f := (((((f1).trans f2).trans f3).trans f4).trans f5).trans f6
    have v1 := f6 _ _ (f5 _ _ (f4 _ _ (f3 _ _ (f2 _ _ (g1)))))
    have v2 := f6 _ _ (f5 _ _ (f4 _ _ (f3 _ _ (g2))))
    have v3 := f6 _ _ (f5 _ _ (f4 _ _ (g3)))
    have v4 := f6 _ _ (f5 _ _ (g4))
    have v5 := f6 _ _ (g5)
    refine ⟨[], .ref S, .ref t6, .list [.tuple [.str "word", .int 1], .tuple [.str "word", .int 1], .tuple [.str "question", .int 1], .tuple [.str "word", .int 2], .tuple [.str "question", .int 0]], _, rfl,
      .lst (f _ _ hS31) (by simp) rfl (fun i v d h1 h2 => ?_), .lst (ds := [.tuple [.str "word", .int 1], .tuple [.str "word", .int 1], .tuple [.str "question", .int 1], .tuple [.str "word", .int 2], .tuple [.str "question", .int 0]]) g6 (by simp) rfl (fun i v d h1 h2 => ?_), by simp [okD], fun H60 e60 => ?_⟩
    · rcases i with _ | _ | _ | _ | _ | i
      · cases h1; cases h2; exact dv_pair (f _ _ hq1)
      · cases h1; cases h2; exact dv_pair (f _ _ hq2)
      · cases h1; cases h2; exact dv_pair (f _ _ hq3)
      · cases h1; cases h2; exact dv_pair (f _ _ hq4)
      · cases h1; cases h2; exact dv_pair (f _ _ hq5)
      · cases h1
    · rcases i with _ | _ | _ | _ | _ | i
      · cases h1; cases h2; exact dv_pair v1
      · cases h1; cases h2; exact dv_pair v2
      · cases h1; cases h2; exact dv_pair v3
      · cases h1; cases h2; exact dv_pair v4
      · cases h1; cases h2; exact dv_pair v5
      · cases h1
    rw [smD_refl 3 _ (by simp [okD])]
    walk_at "w"
    refine if_df (by rfl) ?_
    walk_at "w"
    exact ⟨d31.keep (f.trans e60), hT31.ext (f.trans e60), (f.trans e60) _ _ hk31, _, _, _, _, _, _, _, _, _, _, _, _, _, _, _, _, _, _, _, rfl⟩
end
end BkL
namespace BkL
open PySem PySem.Spec PyProof.Rows L2 BkG
theorem all_mk {l : PySem.W.OpenLaw} {w : World} {K : PySem.W.Frag} {h : Heap} {mg : Str → Option Value} {fa : Addr} (X : K.In h) (G : h.Ns mainGlobals mg) (hfa : mg "law" = some (.ref fa))
  {od0 an0 : Option Addr} {sl0 : Array (Option Value)} {f0 : Addr} {oc0 kV0 dc0 pm0 cd0 ct0 : Value}
  {od1 an1 : Option Addr} {sl1 : Array (Option Value)} {f1 : Addr} {oc1 kV1 dc1 pm1 cd1 ct1 : Value}
  {od2 an2 : Option Addr} {sl2 : Array (Option Value)} {f2 : Addr} {oc2 kV2 dc2 pm2 cd2 ct2 : Value}
  {od3 an3 : Option Addr} {sl3 : Array (Option Value)} {f3 : Addr} {oc3 kV3 dc3 pm3 cd3 ct3 : Value}
  {od4 an4 : Option Addr} {sl4 : Array (Option Value)} {f4 : Addr} {oc4 kV4 dc4 pm4 cd4 ct4 : Value}
  {od5 an5 : Option Addr} {sl5 : Array (Option Value)} {f5 : Addr} {oc5 kV5 dc5 pm5 cd5 ct5 : Value}
  {od6 an6 : Option Addr} {sl6 : Array (Option Value)} {f6 : Addr} {oc6 kV6 dc6 pm6 cd6 ct6 : Value}
  {od7 an7 : Option Addr} {sl7 : Array (Option Value)} {f7 : Addr} {oc7 kV7 dc7 pm7 cd7 ct7 : Value}
  {od8 an8 : Option Addr} {sl8 : Array (Option Value)} {f8 : Addr} {oc8 kV8 dc8 pm8 cd8 ct8 : Value}
  {od9 an9 : Option Addr} {sl9 : Array (Option Value)} {f9 : Addr} {oc9 kV9 dc9 pm9 cd9 ct9 : Value}
  {od10 an10 : Option Addr} {sl10 : Array (Option Value)} {f10 : Addr} {oc10 kV10 dc10 pm10 cd10 ct10 : Value}
  {od11 an11 : Option Addr} {sl11 : Array (Option Value)} {f11 : Addr} {oc11 kV11 dc11 pm11 cd11 ct11 : Value}
  {od12 an12 : Option Addr} {sl12 : Array (Option Value)} {f12 : Addr} {oc12 kV12 dc12 pm12 cd12 ct12 : Value}
  {od13 an13 : Option Addr} {sl13 : Array (Option Value)} {f13 : Addr} {oc13 kV13 dc13 pm13 cd13 ct13 : Value}
  {od14 an14 : Option Addr} {sl14 : Array (Option Value)} {f14 : Addr} {oc14 kV14 dc14 pm14 cd14 ct14 : Value}
  {od15 an15 : Option Addr} {sl15 : Array (Option Value)} {f15 : Addr} {oc15 kV15 dc15 pm15 cd15 ct15 : Value}
  {od16 an16 : Option Addr} {sl16 : Array (Option Value)} {f16 : Addr} {oc16 kV16 dc16 pm16 cd16 ct16 : Value}
  {od17 an17 : Option Addr} {sl17 : Array (Option Value)} {f17 : Addr} {oc17 kV17 dc17 pm17 cd17 ct17 : Value}
  {od18 an18 : Option Addr} {sl18 : Array (Option Value)} {f18 : Addr} {oc18 kV18 dc18 pm18 cd18 ct18 : Value}
  {od19 an19 : Option Addr} {sl19 : Array (Option Value)} {f19 : Addr} {oc19 kV19 dc19 pm19 cd19 ct19 : Value}
  {od20 an20 : Option Addr} {sl20 : Array (Option Value)} {f20 : Addr} {oc20 kV20 dc20 pm20 cd20 ct20 : Value}
  {od21 an21 : Option Addr} {sl21 : Array (Option Value)} {f21 : Addr} {oc21 kV21 dc21 pm21 cd21 ct21 : Value}
  {od22 an22 : Option Addr} {sl22 : Array (Option Value)} {f22 : Addr} {oc22 kV22 dc22 pm22 cd22 ct22 : Value}
  {od23 an23 : Option Addr} {sl23 : Array (Option Value)} {f23 : Addr} {oc23 kV23 dc23 pm23 cd23 ct23 : Value}
  {od24 an24 : Option Addr} {sl24 : Array (Option Value)} {f24 : Addr} {oc24 kV24 dc24 pm24 cd24 ct24 : Value}
  {od25 an25 : Option Addr} {sl25 : Array (Option Value)} {f25 : Addr} {oc25 kV25 dc25 pm25 cd25 ct25 : Value}
  {odL anL : Option Addr} {slL : Array (Option Value)} {fL cL PL : Addr} {ocL kVL dcL pmL ctL kcL : Value} {kdL : Option Addr} {kvsL : Array Value} {kslL : Array (Option Value)}
  {C_0 B_0 fI_0 cda_0 cc_0 eN_0 : Addr} {enm_0 eq_0 : Str} {ebs_0 esub_0 : List Value} {esn_0 : List Str} {eab_0 : Bool} {ecol_0 : Option Bool} {edd_0 : Option Addr} {em0_0 em1_0 em2_0 em3_0 em5_0 : Option Value} {iod_0 ian_0 ikd_0 ild_0 : Option Addr} {isl_0 iks_0 ils_0 : Array (Option Value)} {ioc_0 idc_0 ipm_0 ict_0 ikc_0 ilc_0 : Value} {ivs_0 : Array Value} {ifile_0 : Str} {itf_0 : Tok}
  {C_1 B_1 fI_1 cda_1 cc_1 eN_1 : Addr} {enm_1 eq_1 : Str} {ebs_1 esub_1 : List Value} {esn_1 : List Str} {eab_1 : Bool} {ecol_1 : Option Bool} {edd_1 : Option Addr} {em0_1 em1_1 em2_1 em3_1 em5_1 : Option Value} {iod_1 ian_1 ikd_1 ild_1 : Option Addr} {isl_1 iks_1 ils_1 : Array (Option Value)} {ioc_1 idc_1 ipm_1 ict_1 ikc_1 ilc_1 : Value} {ivs_1 : Array Value} {ifile_1 : Str} {itf_1 : Tok}
  {C_2 B_2 fI_2 cda_2 cc_2 eN_2 : Addr} {enm_2 eq_2 : Str} {ebs_2 esub_2 : List Value} {esn_2 : List Str} {eab_2 : Bool} {ecol_2 : Option Bool} {edd_2 : Option Addr} {em0_2 em1_2 em2_2 em3_2 em5_2 : Option Value} {iod_2 ian_2 ikd_2 ild_2 : Option Addr} {isl_2 iks_2 ils_2 : Array (Option Value)} {ioc_2 idc_2 ipm_2 ict_2 ikc_2 ilc_2 : Value} {ivs_2 : Array Value} {ifile_2 : Str} {itf_2 : Tok}
  {t0 : Tok}
  {t1 : Tok}
  {t2 : Tok}
  {t3 : Tok}
  {w0_0 w0_1 w0_2 w0_3 w0_4 : Tok} {pa0 : Addr} {po0 : Option Addr} {pn0 : Nat} {ps0 : Array (Option Value)}
  (tab : ∀ {c P' : Addr}, PySem.W.tabIn K "law" = some (c, P') → PySem.W.CodeHd h c P' ∧ h.get? P' = some (PySem.W.tabObj #[]))
  (a0 : PySem.W.nsIn K mainGlobals "_law_heard" = some (some (.ref f0)))
  (l0 : K.lookup f0 = some ⟨oc0, od0, .func (PySem.W.fnOf "_law_heard" "_law_heard" (defArgs s_heard) (defBody s_heard) (defScope s_heard) .none kV0 dc0 pm0 an0 cd0 ct0), sl0⟩)
  (c0 : PySem.W.codeIn K cd0 "_law_heard" = true)
  (k0 : PySem.W.keepIn K (.ref f0) = true)
  (a1 : PySem.W.nsIn K mainGlobals "_law_draw" = some (some (.ref f1)))
  (l1 : K.lookup f1 = some ⟨oc1, od1, .func (PySem.W.fnOf "_law_draw" "_law_draw" (defArgs s_draw) (defBody s_draw) (defScope s_draw) .none kV1 dc1 pm1 an1 cd1 ct1), sl1⟩)
  (c1 : PySem.W.codeIn K cd1 "_law_draw" = true)
  (k1 : PySem.W.keepIn K (.ref f1) = true)
  (a2 : PySem.W.nsIn K mainGlobals "_law_any" = some (some (.ref f2)))
  (l2 : K.lookup f2 = some ⟨oc2, od2, .func (PySem.W.fnOf "_law_any" "_law_any" (defArgs s_any) (defBody s_any) (defScope s_any) .none kV2 dc2 pm2 an2 cd2 ct2), sl2⟩)
  (c2 : PySem.W.codeIn K cd2 "_law_any" = true)
  (k2 : PySem.W.keepIn K (.ref f2) = true)
  (a3 : PySem.W.nsIn K mainGlobals "_law_of" = some (some (.ref f3)))
  (l3 : K.lookup f3 = some ⟨oc3, od3, .func (PySem.W.fnOf "_law_of" "_law_of" (defArgs s_of) (defBody s_of) (defScope s_of) .none kV3 dc3 pm3 an3 cd3 ct3), sl3⟩)
  (c3 : PySem.W.codeIn K cd3 "_law_of" = true)
  (k3 : PySem.W.keepIn K (.ref f3) = true)
  (a4 : PySem.W.nsIn K mainGlobals "_law_width" = some (some (.ref f4)))
  (l4 : K.lookup f4 = some ⟨oc4, od4, .func (PySem.W.fnOf "_law_width" "_law_width" (defArgs s_width) (defBody s_width) (defScope s_width) .none kV4 dc4 pm4 an4 cd4 ct4), sl4⟩)
  (c4 : PySem.W.codeIn K cd4 "_law_width" = true)
  (k4 : PySem.W.keepIn K (.ref f4) = true)
  (a5 : PySem.W.nsIn K mainGlobals "_law_same" = some (some (.ref f5)))
  (l5 : K.lookup f5 = some ⟨oc5, od5, .func (PySem.W.fnOf "_law_same" "_law_same" (defArgs s_same) (defBody s_same) (defScope s_same) .none kV5 dc5 pm5 an5 cd5 ct5), sl5⟩)
  (c5 : PySem.W.codeIn K cd5 "_law_same" = true)
  (k5 : PySem.W.keepIn K (.ref f5) = true)
  (a6 : PySem.W.nsIn K mainGlobals "_law_round" = some (some (.ref f6)))
  (l6 : K.lookup f6 = some ⟨oc6, od6, .func (PySem.W.fnOf "_law_round" "_law_round" (defArgs s_round) (defBody s_round) (defScope s_round) .none kV6 dc6 pm6 an6 cd6 ct6), sl6⟩)
  (c6 : PySem.W.codeIn K cd6 "_law_round" = true)
  (k6 : PySem.W.keepIn K (.ref f6) = true)
  (a7 : PySem.W.nsIn K mainGlobals "_law_word" = some (some (.ref f7)))
  (l7 : K.lookup f7 = some ⟨oc7, od7, .func (PySem.W.fnOf "_law_word" "_law_word" (defArgs s_word) (defBody s_word) (defScope s_word) .none kV7 dc7 pm7 an7 cd7 ct7), sl7⟩)
  (c7 : PySem.W.codeIn K cd7 "_law_word" = true)
  (k7 : PySem.W.keepIn K (.ref f7) = true)
  (a8 : PySem.W.nsIn K mainGlobals "_law_value" = some (some (.ref f8)))
  (l8 : K.lookup f8 = some ⟨oc8, od8, .func (PySem.W.fnOf "_law_value" "_law_value" (defArgs s_value) (defBody s_value) (defScope s_value) .none kV8 dc8 pm8 an8 cd8 ct8), sl8⟩)
  (c8 : PySem.W.codeIn K cd8 "_law_value" = true)
  (k8 : PySem.W.keepIn K (.ref f8) = true)
  (a9 : PySem.W.nsIn K mainGlobals "_law_near" = some (some (.ref f9)))
  (l9 : K.lookup f9 = some ⟨oc9, od9, .func (PySem.W.fnOf "_law_near" "_law_near" (defArgs s_near) (defBody s_near) (defScope s_near) .none kV9 dc9 pm9 an9 cd9 ct9), sl9⟩)
  (c9 : PySem.W.codeIn K cd9 "_law_near" = true)
  (k9 : PySem.W.keepIn K (.ref f9) = true)
  (a10 : PySem.W.nsIn K mainGlobals "_law_is_int" = some (some (.ref f10)))
  (l10 : K.lookup f10 = some ⟨oc10, od10, .func (PySem.W.fnOf "_law_is_int" "_law_is_int" (defArgs s_lisint) (defBody s_lisint) (defScope s_lisint) .none kV10 dc10 pm10 an10 cd10 ct10), sl10⟩)
  (c10 : PySem.W.codeIn K cd10 "_law_is_int" = true)
  (k10 : PySem.W.keepIn K (.ref f10) = true)
  (a11 : PySem.W.nsIn K mainGlobals "_law_is_of" = some (some (.ref f11)))
  (l11 : K.lookup f11 = some ⟨oc11, od11, .func (PySem.W.fnOf "_law_is_of" "_law_is_of" (defArgs s_isofk) (defBody s_isofk) (defScope s_isofk) .none kV11 dc11 pm11 an11 cd11 ct11), sl11⟩)
  (c11 : PySem.W.codeIn K cd11 "_law_is_of" = true)
  (k11 : PySem.W.keepIn K (.ref f11) = true)
  (a12 : PySem.W.nsIn K mainGlobals "is_integer" = some (some (.ref f12)))
  (l12 : K.lookup f12 = some ⟨oc12, od12, .func (PySem.W.fnOf "is_integer" "is_integer" (defArgs s_isint) (defBody s_isint) (defScope s_isint) .none kV12 dc12 pm12 an12 cd12 ct12), sl12⟩)
  (c12 : PySem.W.codeIn K cd12 "is_integer" = true)
  (k12 : PySem.W.keepIn K (.ref f12) = true)
  (a13 : PySem.W.nsIn K mainGlobals "is_width" = some (some (.ref f13)))
  (l13 : K.lookup f13 = some ⟨oc13, od13, .func (PySem.W.fnOf "is_width" "is_width" (defArgs s_iswid) (defBody s_iswid) (defScope s_iswid) .none kV13 dc13 pm13 an13 cd13 ct13), sl13⟩)
  (c13 : PySem.W.codeIn K cd13 "is_width" = true)
  (k13 : PySem.W.keepIn K (.ref f13) = true)
  (a14 : PySem.W.nsIn K mainGlobals "checked_width" = some (some (.ref f14)))
  (l14 : K.lookup f14 = some ⟨oc14, od14, .func (PySem.W.fnOf "checked_width" "checked_width" (defArgs s_chkw) (defBody s_chkw) (defScope s_chkw) .none kV14 dc14 pm14 an14 cd14 ct14), sl14⟩)
  (c14 : PySem.W.codeIn K cd14 "checked_width" = true)
  (k14 : PySem.W.keepIn K (.ref f14) = true)
  (a15 : PySem.W.nsIn K mainGlobals "is_word_of" = some (some (.ref f15)))
  (l15 : K.lookup f15 = some ⟨oc15, od15, .func (PySem.W.fnOf "is_word_of" "is_word_of" (defArgs s_isword) (defBody s_isword) (defScope s_isword) .none kV15 dc15 pm15 an15 cd15 ct15), sl15⟩)
  (c15 : PySem.W.codeIn K cd15 "is_word_of" = true)
  (k15 : PySem.W.keepIn K (.ref f15) = true)
  (a16 : PySem.W.nsIn K mainGlobals "are_words" = some (some (.ref f16)))
  (l16 : K.lookup f16 = some ⟨oc16, od16, .func (PySem.W.fnOf "are_words" "are_words" (defArgs s_arewords) (defBody s_arewords) (defScope s_arewords) .none kV16 dc16 pm16 an16 cd16 ct16), sl16⟩)
  (c16 : PySem.W.codeIn K cd16 "are_words" = true)
  (k16 : PySem.W.keepIn K (.ref f16) = true)
  (a17 : PySem.W.nsIn K mainGlobals "is_of_kind" = some (some (.ref f17)))
  (l17 : K.lookup f17 = some ⟨oc17, od17, .func (PySem.W.fnOf "is_of_kind" "is_of_kind" (defArgs s_ofkind) (defBody s_ofkind) (defScope s_ofkind) .none kV17 dc17 pm17 an17 cd17 ct17), sl17⟩)
  (c17 : PySem.W.codeIn K cd17 "is_of_kind" = true)
  (k17 : PySem.W.keepIn K (.ref f17) = true)
  (a18 : PySem.W.nsIn K mainGlobals "is_value" = some (some (.ref f18)))
  (l18 : K.lookup f18 = some ⟨oc18, od18, .func (PySem.W.fnOf "is_value" "is_value" (defArgs s_isvalue) (defBody s_isvalue) (defScope s_isvalue) .none kV18 dc18 pm18 an18 cd18 ct18), sl18⟩)
  (c18 : PySem.W.codeIn K cd18 "is_value" = true)
  (k18 : PySem.W.keepIn K (.ref f18) = true)
  (a19 : PySem.W.nsIn K mainGlobals "kinds_of" = some (some (.ref f19)))
  (l19 : K.lookup f19 = some ⟨oc19, od19, .func (PySem.W.fnOf "kinds_of" "kinds_of" (defArgs s_kindsof) (defBody s_kindsof) (defScope s_kindsof) .none kV19 dc19 pm19 an19 cd19 ct19), sl19⟩)
  (c19 : PySem.W.codeIn K cd19 "kinds_of" = true)
  (k19 : PySem.W.keepIn K (.ref f19) = true)
  (a20 : PySem.W.nsIn K mainGlobals "is_kind" = some (some (.ref f20)))
  (l20 : K.lookup f20 = some ⟨oc20, od20, .func (PySem.W.fnOf "is_kind" "is_kind" (defArgs s_iskind) (defBody s_iskind) (defScope s_iskind) .none kV20 dc20 pm20 an20 cd20 ct20), sl20⟩)
  (c20 : PySem.W.codeIn K cd20 "is_kind" = true)
  (k20 : PySem.W.keepIn K (.ref f20) = true)
  (a21 : PySem.W.nsIn K mainGlobals "are_kinds" = some (some (.ref f21)))
  (l21 : K.lookup f21 = some ⟨oc21, od21, .func (PySem.W.fnOf "are_kinds" "are_kinds" (defArgs s_arekinds) (defBody s_arekinds) (defScope s_arekinds) .none kV21 dc21 pm21 an21 cd21 ct21), sl21⟩)
  (c21 : PySem.W.codeIn K cd21 "are_kinds" = true)
  (k21 : PySem.W.keepIn K (.ref f21) = true)
  (a22 : PySem.W.nsIn K mainGlobals "fit_kinds" = some (some (.ref f22)))
  (l22 : K.lookup f22 = some ⟨oc22, od22, .func (PySem.W.fnOf "fit_kinds" "fit_kinds" (defArgs s_fitkinds) (defBody s_fitkinds) (defScope s_fitkinds) .none kV22 dc22 pm22 an22 cd22 ct22), sl22⟩)
  (c22 : PySem.W.codeIn K cd22 "fit_kinds" = true)
  (k22 : PySem.W.keepIn K (.ref f22) = true)
  (a23 : PySem.W.nsIn K mainGlobals "fit" = some (some (.ref f23)))
  (l23 : K.lookup f23 = some ⟨oc23, od23, .func (PySem.W.fnOf "fit" "fit" (defArgs s_fit) (defBody s_fit) (defScope s_fit) .none kV23 dc23 pm23 an23 cd23 ct23), sl23⟩)
  (c23 : PySem.W.codeIn K cd23 "fit" = true)
  (k23 : PySem.W.keepIn K (.ref f23) = true)
  (a24 : PySem.W.nsIn K mainGlobals "is_sequence" = some (some (.ref f24)))
  (l24 : K.lookup f24 = some ⟨oc24, od24, .func (PySem.W.fnOf "is_sequence" "is_sequence" (defArgs s_isseq) (defBody s_isseq) (defScope s_isseq) .none kV24 dc24 pm24 an24 cd24 ct24), sl24⟩)
  (c24 : PySem.W.codeIn K cd24 "is_sequence" = true)
  (k24 : PySem.W.keepIn K (.ref f24) = true)
  (a25 : PySem.W.nsIn K mainGlobals "empty_of" = some (some (.ref f25)))
  (l25 : K.lookup f25 = some ⟨oc25, od25, .func (PySem.W.fnOf "empty_of" "empty_of" (defArgs s_emptyT) (defBody s_emptyT) (defScope s_emptyT) .none kV25 dc25 pm25 an25 cd25 ct25), sl25⟩)
  (c25 : PySem.W.codeIn K cd25 "empty_of" = true)
  (k25 : PySem.W.keepIn K (.ref f25) = true)
  (aL : PySem.W.nsIn K mainGlobals "law" = some (some (.ref fL)))
  (lL : K.lookup fL = some ⟨ocL, odL, .func (PySem.W.fnOf "law" "law" (defArgs s_law) (defBody s_law) (defScope s_law) .none kVL dcL pmL anL (.ref cL) ctL), slL⟩)
  (cL_ : PySem.W.codeIn K (.ref cL) "law" = true)
  (lcL : K.lookup cL = some ⟨kcL, kdL, .fields kvsL, kslL⟩)
  (pvL : (kvsL[11]? : Option Value) = some (.ref PL))
  (nPL : K.lookup PL = none)
  (eC_0 : PySem.W.nsIn K mainGlobals "InvalidWord" = some (some (.ref C_0)))
  (ex_0 : K.lookup C_0 = some (excClassObj enm_0 eq_0 C_0 eN_0 ebs_0 [.ref B_0, .type "ValueError", .type "Exception", .type "BaseException", .type "object"] true esn_0 esub_0 eab_0 ecol_0 edd_0 em0_0 em1_0 em2_0 em3_0 em5_0 "ValueError.__new__"))
  (esa_0 : PySem.W.findIn K (.ref C_0) "__setattr__" = some (some (.builtin "object.__setattr__")))
  (ega_0 : PySem.W.findIn K (.ref C_0) "__getattribute__" = some (some (.builtin "BaseException.__getattribute__")))
  (egg_0 : PySem.W.findIn K (.ref C_0) "__getattr__" = some none)
  (eno_0 : PySem.W.findIn K (.ref C_0) "at" = some none)
  (ei_0 : PySem.W.findIn K (.ref C_0) "__init__" = some (some (.ref fI_0)))
  (et_0 : PySem.W.typeIn K (.ref fI_0) = some (.type "function"))
  (ek_0 : PySem.W.keepIn K (.ref C_0) = true)
  (eb_0 : PySem.W.subIn K (.ref C_0) (.type "BaseException") = some true)
  (ev_0 : PySem.W.subIn K (.ref C_0) (.type "ValueError") = some true)
  (ety_0 : PySem.W.typeIn K (.ref C_0) = some (.type "type"))
  (eh_0 : PySem.W.hasDictIn K C_0 = true)
  (eis_0 : PySem.W.isClsIn K C_0 = true)
  (ess_0 : PySem.W.subIn K (.ref C_0) (.ref C_0) = some true)
  (emr_0 : PySem.W.mroIn K C_0 (.ref C_0) = some true)
  (esu_0 : PySem.W.ks_superIn K C_0 C_0 "__init__" = some (some (.builtin "ValueError.__init__")))
  (il_0 : K.lookup fI_0 = some ⟨ioc_0, iod_0, .func (PySem.W.ksFn "__init__" "InvalidWord.__init__" (PySem.BkErr.iA ⟨6, 17, 6, 21⟩ ⟨6, 23, 6, 25⟩) (PySem.BkErr.iB ⟨7, 8, 7, 13⟩ ⟨7, 8, 7, 15⟩ ⟨7, 8, 7, 24⟩ ⟨7, 25, 7, 27⟩ ⟨7, 8, 7, 28⟩ ⟨7, 8, 7, 28⟩ ⟨8, 8, 8, 12⟩ ⟨8, 8, 8, 15⟩ ⟨8, 18, 8, 20⟩ ⟨8, 8, 8, 20⟩) PySem.BkErr.iS .none .none idc_0 ipm_0 ian_0 (.ref cda_0) ict_0 cc_0), isl_0⟩)
  (ic_0 : PySem.W.codeIn K (.ref cda_0) "InvalidWord.__init__" = true)
  (icl_0 : K.lookup cc_0 = some ⟨ilc_0, ild_0, .cell (some (.ref C_0)), ils_0⟩)
  (ico_0 : K.lookup cda_0 = some ⟨ikc_0, ikd_0, .fields ivs_0, iks_0⟩)
  (iv_0 : ivs_0[2]? = some (.str ifile_0 itf_0))
  (iff_0 : ((l.prog.main.file : Str) == ifile_0) = true)
  (eC_1 : PySem.W.nsIn K mainGlobals "InvalidQuestion" = some (some (.ref C_1)))
  (ex_1 : K.lookup C_1 = some (excClassObj enm_1 eq_1 C_1 eN_1 ebs_1 [.ref B_1, .type "ValueError", .type "Exception", .type "BaseException", .type "object"] true esn_1 esub_1 eab_1 ecol_1 edd_1 em0_1 em1_1 em2_1 em3_1 em5_1 "ValueError.__new__"))
  (esa_1 : PySem.W.findIn K (.ref C_1) "__setattr__" = some (some (.builtin "object.__setattr__")))
  (ega_1 : PySem.W.findIn K (.ref C_1) "__getattribute__" = some (some (.builtin "BaseException.__getattribute__")))
  (egg_1 : PySem.W.findIn K (.ref C_1) "__getattr__" = some none)
  (eno_1 : PySem.W.findIn K (.ref C_1) "at" = some none)
  (ei_1 : PySem.W.findIn K (.ref C_1) "__init__" = some (some (.ref fI_1)))
  (et_1 : PySem.W.typeIn K (.ref fI_1) = some (.type "function"))
  (ek_1 : PySem.W.keepIn K (.ref C_1) = true)
  (eb_1 : PySem.W.subIn K (.ref C_1) (.type "BaseException") = some true)
  (ev_1 : PySem.W.subIn K (.ref C_1) (.type "ValueError") = some true)
  (ety_1 : PySem.W.typeIn K (.ref C_1) = some (.type "type"))
  (eh_1 : PySem.W.hasDictIn K C_1 = true)
  (eis_1 : PySem.W.isClsIn K C_1 = true)
  (ess_1 : PySem.W.subIn K (.ref C_1) (.ref C_1) = some true)
  (emr_1 : PySem.W.mroIn K C_1 (.ref C_1) = some true)
  (esu_1 : PySem.W.ks_superIn K C_1 C_1 "__init__" = some (some (.builtin "ValueError.__init__")))
  (il_1 : K.lookup fI_1 = some ⟨ioc_1, iod_1, .func (PySem.W.ksFn "__init__" "InvalidQuestion.__init__" (PySem.BkErr.iA ⟨11, 17, 11, 21⟩ ⟨11, 23, 11, 25⟩) (PySem.BkErr.iB ⟨12, 8, 12, 13⟩ ⟨12, 8, 12, 15⟩ ⟨12, 8, 12, 24⟩ ⟨12, 25, 12, 27⟩ ⟨12, 8, 12, 28⟩ ⟨12, 8, 12, 28⟩ ⟨13, 8, 13, 12⟩ ⟨13, 8, 13, 15⟩ ⟨13, 18, 13, 20⟩ ⟨13, 8, 13, 20⟩) PySem.BkErr.iS .none .none idc_1 ipm_1 ian_1 (.ref cda_1) ict_1 cc_1), isl_1⟩)
  (ic_1 : PySem.W.codeIn K (.ref cda_1) "InvalidQuestion.__init__" = true)
  (icl_1 : K.lookup cc_1 = some ⟨ilc_1, ild_1, .cell (some (.ref C_1)), ils_1⟩)
  (ico_1 : K.lookup cda_1 = some ⟨ikc_1, ikd_1, .fields ivs_1, iks_1⟩)
  (iv_1 : ivs_1[2]? = some (.str ifile_1 itf_1))
  (iff_1 : ((l.prog.main.file : Str) == ifile_1) = true)
  (eC_2 : PySem.W.nsIn K mainGlobals "Refused" = some (some (.ref C_2)))
  (ex_2 : K.lookup C_2 = some (excClassObj enm_2 eq_2 C_2 eN_2 ebs_2 [.ref B_2, .type "ValueError", .type "Exception", .type "BaseException", .type "object"] true esn_2 esub_2 eab_2 ecol_2 edd_2 em0_2 em1_2 em2_2 em3_2 em5_2 "ValueError.__new__"))
  (esa_2 : PySem.W.findIn K (.ref C_2) "__setattr__" = some (some (.builtin "object.__setattr__")))
  (ega_2 : PySem.W.findIn K (.ref C_2) "__getattribute__" = some (some (.builtin "BaseException.__getattribute__")))
  (egg_2 : PySem.W.findIn K (.ref C_2) "__getattr__" = some none)
  (eno_2 : PySem.W.findIn K (.ref C_2) "at" = some none)
  (ei_2 : PySem.W.findIn K (.ref C_2) "__init__" = some (some (.ref fI_2)))
  (et_2 : PySem.W.typeIn K (.ref fI_2) = some (.type "function"))
  (ek_2 : PySem.W.keepIn K (.ref C_2) = true)
  (eb_2 : PySem.W.subIn K (.ref C_2) (.type "BaseException") = some true)
  (ev_2 : PySem.W.subIn K (.ref C_2) (.type "ValueError") = some true)
  (ety_2 : PySem.W.typeIn K (.ref C_2) = some (.type "type"))
  (eh_2 : PySem.W.hasDictIn K C_2 = true)
  (eis_2 : PySem.W.isClsIn K C_2 = true)
  (ess_2 : PySem.W.subIn K (.ref C_2) (.ref C_2) = some true)
  (emr_2 : PySem.W.mroIn K C_2 (.ref C_2) = some true)
  (esu_2 : PySem.W.ks_superIn K C_2 C_2 "__init__" = some (some (.builtin "ValueError.__init__")))
  (il_2 : K.lookup fI_2 = some ⟨ioc_2, iod_2, .func (PySem.W.ksFn "__init__" "Refused.__init__" (PySem.BkErr.iA ⟨16, 17, 16, 21⟩ ⟨16, 23, 16, 25⟩) (PySem.BkErr.iB ⟨17, 8, 17, 13⟩ ⟨17, 8, 17, 15⟩ ⟨17, 8, 17, 24⟩ ⟨17, 25, 17, 27⟩ ⟨17, 8, 17, 28⟩ ⟨17, 8, 17, 28⟩ ⟨18, 8, 18, 12⟩ ⟨18, 8, 18, 15⟩ ⟨18, 18, 18, 20⟩ ⟨18, 8, 18, 20⟩) PySem.BkErr.iS .none .none idc_2 ipm_2 ian_2 (.ref cda_2) ict_2 cc_2), isl_2⟩)
  (ic_2 : PySem.W.codeIn K (.ref cda_2) "Refused.__init__" = true)
  (icl_2 : K.lookup cc_2 = some ⟨ilc_2, ild_2, .cell (some (.ref C_2)), ils_2⟩)
  (ico_2 : K.lookup cda_2 = some ⟨ikc_2, ikd_2, .fields ivs_2, iks_2⟩)
  (iv_2 : ivs_2[2]? = some (.str ifile_2 itf_2))
  (iff_2 : ((l.prog.main.file : Str) == ifile_2) = true)
  (noSup : PySem.W.nsIn K mainGlobals "super" = some none)
  (opAny : PySem.W.nsIn K cStatics "thirdparty.any" = some none)
  (topSup : (l.prog.main.scope.names.lookup ("super" : Str)).isSome = false)
  (x_x21 : PySem.W.subIn K (.ref C_1) (.ref C_0) = some false)
  (x_x31 : PySem.W.subIn K (.ref C_2) (.ref C_0) = some false)
  (x_x32 : PySem.W.subIn K (.ref C_2) (.ref C_1) = some false)
  (gc0 : PySem.W.nsIn K mainGlobals "MOST_WIDTH" = some (some (.int 64 t0)))
  (gc1 : PySem.W.nsIn K mainGlobals "MOST_ENTRIES" = some (some (.int 200 t1)))
  (gc2 : PySem.W.nsIn K mainGlobals "MOST_STACK" = some (some (.int 2000 t2)))
  (gc3 : PySem.W.nsIn K mainGlobals "MOST_KINDS" = some (some (.int 20 t3)))
  (pg0 : PySem.W.nsIn K mainGlobals "KINDS" = some (some (.ref pa0)))
  (pl0 : K.lookup pa0 = some ⟨.type "tuple", po0, .seq #[.str "word" w0_0, .str "array" w0_1, .str "stack" w0_2, .str "in" w0_3, .str "out" w0_4] pn0, ps0⟩)
  (z_abs : PySem.W.nsIn K mainGlobals "abs" = some none)
  (z_int : PySem.W.nsIn K mainGlobals "int" = some none)
  (z_len : PySem.W.nsIn K mainGlobals "len" = some none)
  (z_range : PySem.W.nsIn K mainGlobals "range" = some none)
  (z_isinstance : PySem.W.nsIn K mainGlobals "isinstance" = some none)
  (z_tuple : PySem.W.nsIn K mainGlobals "tuple" = some none)
  (z_list : PySem.W.nsIn K mainGlobals "list" = some none)
  (z_bool : PySem.W.nsIn K mainGlobals "bool" = some none)
  (z_str : PySem.W.nsIn K mainGlobals "str" = some none)
  (z_zip : PySem.W.nsIn K mainGlobals "zip" = some none)
  (z_enumerate : PySem.W.nsIn K mainGlobals "enumerate" = some none)
  (z_sorted : PySem.W.nsIn K mainGlobals "sorted" = some none)
  (z_min : PySem.W.nsIn K mainGlobals "min" = some none)
  (z_max : PySem.W.nsIn K mainGlobals "max" = some none)
  (z_all : PySem.W.nsIn K mainGlobals "all" = some none)
  (z_any : PySem.W.nsIn K mainGlobals "any" = some none)
  (z_sum : PySem.W.nsIn K mainGlobals "sum" = some none)
  (z_dict : PySem.W.nsIn K mainGlobals "dict" = some none) :
    LamX.LawAtS l w K CX0 9 63 "script" mg fa h := by
  have e := hfa.symm.trans (PySem.W.mg_of X G aL)
  cases e
  have F0 : Fn K mg "_law_heard" s_heard ["work"] := fn_mk X G (fun _ _ _ _ _ _ us hl => match us, hl with | [_], _ => rfl) (fun _ _ _ _ _ _ us hl => match us, hl with | [_], _ => rfl) a0 l0 c0 k0
  have F1 : Fn K mg "_law_draw" s_draw ["script", "salt"] := fn_mk X G (fun _ _ _ _ _ _ us hl => match us, hl with | [_, _], _ => rfl) (fun _ _ _ _ _ _ us hl => match us, hl with | [_, _], _ => rfl) a1 l1 c1 k1
  have F2 : Fn K mg "_law_any" s_any ["deal", "bound"] := fn_mk X G (fun _ _ _ _ _ _ us hl => match us, hl with | [_, _], _ => rfl) (fun _ _ _ _ _ _ us hl => match us, hl with | [_, _], _ => rfl) a2 l2 c2 k2
  have F3 : Fn K mg "_law_of" s_of ["deal", "some"] := fn_mk X G (fun _ _ _ _ _ _ us hl => match us, hl with | [_, _], _ => rfl) (fun _ _ _ _ _ _ us hl => match us, hl with | [_, _], _ => rfl) a3 l3 c3 k3
  have F4 : Fn K mg "_law_width" s_width ["deal"] := fn_mk X G (fun _ _ _ _ _ _ us hl => match us, hl with | [_], _ => rfl) (fun _ _ _ _ _ _ us hl => match us, hl with | [_], _ => rfl) a4 l4 c4 k4
  have F5 : Fn K mg "_law_same" s_same ["value", "due"] := fn_mk X G (fun _ _ _ _ _ _ us hl => match us, hl with | [_, _], _ => rfl) (fun _ _ _ _ _ _ us hl => match us, hl with | [_, _], _ => rfl) a5 l5 c5 k5
  have F6 : Fn K mg "_law_round" s_round ["width"] := fn_mk X G (fun _ _ _ _ _ _ us hl => match us, hl with | [_], _ => rfl) (fun _ _ _ _ _ _ us hl => match us, hl with | [_], _ => rfl) a6 l6 c6 k6
  have F7 : Fn K mg "_law_word" s_word ["deal", "width"] := fn_mk X G (fun _ _ _ _ _ _ us hl => match us, hl with | [_, _], _ => rfl) (fun _ _ _ _ _ _ us hl => match us, hl with | [_, _], _ => rfl) a7 l7 c7 k7
  have F8 : Fn K mg "_law_value" s_value ["deal", "kind", "width"] := fn_mk X G (fun _ _ _ _ _ _ us hl => match us, hl with | [_, _, _], _ => rfl) (fun _ _ _ _ _ _ us hl => match us, hl with | [_, _, _], _ => rfl) a8 l8 c8 k8
  have F9 : Fn K mg "_law_near" s_near ["deal", "value", "width"] := fn_mk X G (fun _ _ _ _ _ _ us hl => match us, hl with | [_, _, _], _ => rfl) (fun _ _ _ _ _ _ us hl => match us, hl with | [_, _, _], _ => rfl) a9 l9 c9 k9
  have F10 : Fn K mg "_law_is_int" s_lisint ["value"] := fn_mk X G (fun _ _ _ _ _ _ us hl => match us, hl with | [_], _ => rfl) (fun _ _ _ _ _ _ us hl => match us, hl with | [_], _ => rfl) a10 l10 c10 k10
  have F11 : Fn K mg "_law_is_of" s_isofk ["value", "kind", "width"] := fn_mk X G (fun _ _ _ _ _ _ us hl => match us, hl with | [_, _, _], _ => rfl) (fun _ _ _ _ _ _ us hl => match us, hl with | [_, _, _], _ => rfl) a11 l11 c11 k11
  have F12 : Fn K mg "is_integer" s_isint ["value"] := fn_mk X G (fun _ _ _ _ _ _ us hl => match us, hl with | [_], _ => rfl) (fun _ _ _ _ _ _ us hl => match us, hl with | [_], _ => rfl) a12 l12 c12 k12
  have F13 : Fn K mg "is_width" s_iswid ["value"] := fn_mk X G (fun _ _ _ _ _ _ us hl => match us, hl with | [_], _ => rfl) (fun _ _ _ _ _ _ us hl => match us, hl with | [_], _ => rfl) a13 l13 c13 k13
  have F14 : Fn K mg "checked_width" s_chkw ["width", "at"] := fn_mk X G (fun _ _ _ _ _ _ us hl => match us, hl with | [_, _], _ => rfl) (fun _ _ _ _ _ _ us hl => match us, hl with | [_, _], _ => rfl) a14 l14 c14 k14
  have F15 : Fn K mg "is_word_of" s_isword ["value", "width"] := fn_mk X G (fun _ _ _ _ _ _ us hl => match us, hl with | [_, _], _ => rfl) (fun _ _ _ _ _ _ us hl => match us, hl with | [_, _], _ => rfl) a15 l15 c15 k15
  have F16 : Fn K mg "are_words" s_arewords ["value", "width", "most"] := fn_mk X G (fun _ _ _ _ _ _ us hl => match us, hl with | [_, _, _], _ => rfl) (fun _ _ _ _ _ _ us hl => match us, hl with | [_, _, _], _ => rfl) a16 l16 c16 k16
  have F17 : Fn K mg "is_of_kind" s_ofkind ["value", "kind", "width"] := fn_mk X G (fun _ _ _ _ _ _ us hl => match us, hl with | [_, _, _], _ => rfl) (fun _ _ _ _ _ _ us hl => match us, hl with | [_, _, _], _ => rfl) a17 l17 c17 k17
  have F18 : Fn K mg "is_value" s_isvalue ["value", "width"] := fn_mk X G (fun _ _ _ _ _ _ us hl => match us, hl with | [_, _], _ => rfl) (fun _ _ _ _ _ _ us hl => match us, hl with | [_, _], _ => rfl) a18 l18 c18 k18
  have F19 : Fn K mg "kinds_of" s_kindsof ["value", "width"] := fn_mk X G (fun _ _ _ _ _ _ us hl => match us, hl with | [_, _], _ => rfl) (fun _ _ _ _ _ _ us hl => match us, hl with | [_, _], _ => rfl) a19 l19 c19 k19
  have F20 : Fn K mg "is_kind" s_iskind ["value"] := fn_mk X G (fun _ _ _ _ _ _ us hl => match us, hl with | [_], _ => rfl) (fun _ _ _ _ _ _ us hl => match us, hl with | [_], _ => rfl) a20 l20 c20 k20
  have F21 : Fn K mg "are_kinds" s_arekinds ["value"] := fn_mk X G (fun _ _ _ _ _ _ us hl => match us, hl with | [_], _ => rfl) (fun _ _ _ _ _ _ us hl => match us, hl with | [_], _ => rfl) a21 l21 c21 k21
  have F22 : Fn K mg "fit_kinds" s_fitkinds ["values", "kinds", "width"] := fn_mk X G (fun _ _ _ _ _ _ us hl => match us, hl with | [_, _, _], _ => rfl) (fun _ _ _ _ _ _ us hl => match us, hl with | [_, _, _], _ => rfl) a22 l22 c22 k22
  have F23 : Fn K mg "fit" s_fit ["values", "kinds", "width"] := fn_mk X G (fun _ _ _ _ _ _ us hl => match us, hl with | [_, _, _], _ => rfl) (fun _ _ _ _ _ _ us hl => match us, hl with | [_, _, _], _ => rfl) a23 l23 c23 k23
  have F24 : Fn K mg "is_sequence" s_isseq ["value"] := fn_mk X G (fun _ _ _ _ _ _ us hl => match us, hl with | [_], _ => rfl) (fun _ _ _ _ _ _ us hl => match us, hl with | [_], _ => rfl) a24 l24 c24 k24
  have F25 : Fn K mg "empty_of" s_emptyT ["kinds"] := fn_mk X G (fun _ _ _ _ _ _ us hl => match us, hl with | [_], _ => rfl) (fun _ _ _ _ _ _ us hl => match us, hl with | [_], _ => rfl) a25 l25 c25 k25
  have Z : Bz mg := ⟨PySem.W.mg_none_of X G z_abs, PySem.W.mg_none_of X G z_int, PySem.W.mg_none_of X G z_len, PySem.W.mg_none_of X G z_range, PySem.W.mg_none_of X G z_isinstance, PySem.W.mg_none_of X G z_tuple, PySem.W.mg_none_of X G z_list, PySem.W.mg_none_of X G z_bool, PySem.W.mg_none_of X G z_str, PySem.W.mg_none_of X G z_zip, PySem.W.mg_none_of X G z_enumerate, PySem.W.mg_none_of X G z_sorted, PySem.W.mg_none_of X G z_min, PySem.W.mg_none_of X G z_max, PySem.W.mg_none_of X G z_all, PySem.W.mg_none_of X G z_any, PySem.W.mg_none_of X G z_sum, PySem.W.mg_none_of X G z_dict⟩
  have g_MOST_WIDTH : ∃ u, mg "MOST_WIDTH" = some u ∧ RelV (.int 64) u := ⟨_, PySem.W.mg_of X G gc0, _, rfl⟩
  have g_MOST_ENTRIES : ∃ u, mg "MOST_ENTRIES" = some u ∧ RelV (.int 200) u := ⟨_, PySem.W.mg_of X G gc1, _, rfl⟩
  have g_MOST_STACK : ∃ u, mg "MOST_STACK" = some u ∧ RelV (.int 2000) u := ⟨_, PySem.W.mg_of X G gc2, _, rfl⟩
  have g_MOST_KINDS : ∃ u, mg "MOST_KINDS" = some u ∧ RelV (.int 20) u := ⟨_, PySem.W.mg_of X G gc3, _, rfl⟩
  have gT_KINDS : ∃ pa, (∃ u, mg "KINDS" = some u ∧ RelV (.ref pa) u) ∧ ∀ H, SqT K H pa kindsV := ⟨pa0, ⟨_, PySem.W.mg_of X G pg0, rfl⟩, fun H => .inr ⟨_, _, _, pl0, rfl, rfl, (by show 5 ≤ sizeLine; decide), .cons ⟨_, rfl⟩ (.cons ⟨_, rfl⟩ (.cons ⟨_, rfl⟩ (.cons ⟨_, rfl⟩ (.cons ⟨_, rfl⟩ (.nil)))))⟩⟩
  have T_InvalidWord : PySem.BkErr.ErrTxt l.prog K mg "InvalidWord" C_0 fI_0 :=
    { gC := PySem.W.mg_of X G eC_0, noS := PySem.W.mg_none_of X G noSup, cls := ⟨_, _, _, _, _, _, _, _, _, _, _, _, _, _, _, ex_0, by rfl⟩, sa := esa_0, ga := ega_0, gg := egg_0, noN := eno_0, iC := ei_0, tC := et_0, kC := ek_0, exC := eb_0, veC := ev_0, tyC := ety_0, hdC := eh_0, te := exm_b eb_0 eis_0 ety_0 ess_0, mro := emr_0, op := opAny, sup := esu_0,
      fn := ⟨_, _, _, _, _, _, _, _, _, _, _, _, _, _, _, _, _, _, _, _, _, _, il_0, ic_0, ⟨_, _, _, icl_0⟩, by rfl, _, _, _, _, _, _, ico_0, iv_0, iff_0⟩, top := topSup }
  have T_InvalidQuestion : PySem.BkErr.ErrTxt l.prog K mg "InvalidQuestion" C_1 fI_1 :=
    { gC := PySem.W.mg_of X G eC_1, noS := PySem.W.mg_none_of X G noSup, cls := ⟨_, _, _, _, _, _, _, _, _, _, _, _, _, _, _, ex_1, by rfl⟩, sa := esa_1, ga := ega_1, gg := egg_1, noN := eno_1, iC := ei_1, tC := et_1, kC := ek_1, exC := eb_1, veC := ev_1, tyC := ety_1, hdC := eh_1, te := exm_b eb_1 eis_1 ety_1 ess_1, mro := emr_1, op := opAny, sup := esu_1,
      fn := ⟨_, _, _, _, _, _, _, _, _, _, _, _, _, _, _, _, _, _, _, _, _, _, il_1, ic_1, ⟨_, _, _, icl_1⟩, by rfl, _, _, _, _, _, _, ico_1, iv_1, iff_1⟩, top := topSup }
  have T_Refused : PySem.BkErr.ErrTxt l.prog K mg "Refused" C_2 fI_2 :=
    { gC := PySem.W.mg_of X G eC_2, noS := PySem.W.mg_none_of X G noSup, cls := ⟨_, _, _, _, _, _, _, _, _, _, _, _, _, _, _, ex_2, by rfl⟩, sa := esa_2, ga := ega_2, gg := egg_2, noN := eno_2, iC := ei_2, tC := et_2, kC := ek_2, exC := eb_2, veC := ev_2, tyC := ety_2, hdC := eh_2, te := exm_b eb_2 eis_2 ety_2 ess_2, mro := emr_2, op := opAny, sup := esu_2,
      fn := ⟨_, _, _, _, _, _, _, _, _, _, _, _, _, _, _, _, _, _, _, _, _, _, il_2, ic_2, ⟨_, _, _, icl_2⟩, by rfl, _, _, _, _, _, _, ico_2, iv_2, iff_2⟩, top := topSup }
  have x21 : PySem.W.exmOne K (.ref C_1) (.ref C_0) = some _ := exm_b eb_0 eis_0 ety_0 x_x21
  have x31 : PySem.W.exmOne K (.ref C_2) (.ref C_0) = some _ := exm_b eb_0 eis_0 ety_0 x_x31
  have x32 : PySem.W.exmOne K (.ref C_2) (.ref C_1) = some _ := exm_b eb_1 eis_1 ety_1 x_x32
  obtain ⟨hCd, hTb⟩ := tab (tab_in aL lL rfl lcL pvL)
  refine ⟨PySem.W.fnOf "law" "law" (defArgs s_law) (defBody s_law) (defScope s_law) .none kVL dcL pmL anL (.ref cL) ctL, [(cL, PL)], spLawT K PL, fun p hp => ?_, fun p hp => ?_, fun p hp => ?_, fun s v => .of_eq rfl, fun H a ns hl hbits hH hS => ⟨a, ns, rfl, hS, hl, hH (cL, PL) (by simp), fun _ => rfl⟩, fun base _ _ hTB => ?_⟩
  · rw [List.mem_singleton.mp hp]; exact hTb
  · rw [List.mem_singleton.mp hp]; exact nPL
  · rw [List.mem_singleton.mp hp]; exact hCd
  have C1 : Cal l.prog w K mg base 1 "_law_draw" (spDraw K) := C_draw F1 Z
  have C2 : Cal l.prog w K mg base 1 "_law_any" spAny := C_any F2 Z
  have C3 : Cal l.prog w K mg base 2 "_law_of" spOf := C_of F3 Z C2
  have C4 : Cal l.prog w K mg base 3 "_law_width" spWidthD := C_width F4 Z C3
  have C5 : Cal l.prog w K mg base (5 + 1) "_law_same" (spSame 5) := C_same F5 Z 5
  have C6 : Cal l.prog w K mg base 1 "_law_round" spRound := C_round F6 Z
  have C7 : Cal l.prog w K mg base 3 "_law_word" spWordD := C_word F7 Z C2 C3 C6
  have C8 : Cal l.prog w K mg base 4 "_law_value" spValue := C_value F8 Z C2 C7
  have C9 : Cal l.prog w K mg base 3 "_law_near" spNear := C_near F9 Z C6 C3
  have C10 : Cal l.prog w K mg base 1 "_law_is_int" spIntg := C_lisint F10 Z
  have C11 : Cal l.prog w K mg base 7 "_law_is_of" spIsOfK := C_isofk F11 Z C10 C6 C5
  have C12 : Cal l.prog w K mg base 1 "is_integer" spIntg := C_isint F12 Z
  have C13 : Cal l.prog w K mg base 2 "is_width" spWid := C_iswid F13 Z g_MOST_WIDTH C12
  have C14 : CalR l.prog w K mg base 3 "checked_width" ["width", "at"] (spChkWX l.prog K mg) := C_chkw F14 Z T_InvalidWord C13
  have C15 : Cal l.prog w K mg base 2 "is_word_of" spWordOf := C_isword F15 Z C12
  have C16 : Cal l.prog w K mg base 3 "are_words" spWords := C_arewords F16 Z C15
  have C17 : Cal l.prog w K mg base 4 "is_of_kind" spOfKind := C_ofkind F17 Z g_MOST_ENTRIES g_MOST_STACK C15 C16
  have C18 : CalR l.prog w K mg base 5 "is_value" ["value", "width"] (spIsValue l.prog K mg) := C_isvalue F18 Z gT_KINDS C14 C17
  have C19 : CalR l.prog w K mg base 5 "kinds_of" ["value", "width"] (spKindsOf l.prog K mg) := C_kindsof F19 Z T_InvalidQuestion gT_KINDS C14 C17
  have C20 : CalK l.prog w K mg base 1 "is_kind" ["value"] spKind := C_iskind F20 Z gT_KINDS
  have C21 : CalK l.prog w K mg base 2 "are_kinds" ["value"] spKinds := C_arekinds F21 Z g_MOST_KINDS C20.cal
  have C22 : Cal l.prog w K mg base 5 "fit_kinds" spFitKinds := C_fitkinds F22 Z C17
  have C23 : CalR l.prog w K mg base 6 "fit" ["values", "kinds", "width"] (spFit l.prog K mg) := C_fit F23 Z T_InvalidQuestion C21.cal C14 C22
  have C24 : Cal l.prog w K mg base 1 "is_sequence" spSeqq := C_isseq F24 Z
  have C25 : CalR l.prog w K mg base 3 "empty_of" ["kinds"] (spEmpty l.prog K mg) := C_empty F25 Z T_InvalidQuestion C24 C21.cal
  exact C_law lL cL_ (hTB (cL, PL) (by simp)) Z F0 T_InvalidWord T_InvalidQuestion T_Refused x21 x31 x32 C1 C2 C3 C4 C5 C8 C9 C11 C18 C19 C23 C25 C21 C20
end BkL
open PySem PySem.W PyProof.Rows
set_option maxHeartbeats 0 in
theorem PySem.Challenge.cw_backagain_k03_whole_values_and_kinds_holds : PySem.Challenge.rw_backagain_k03_whole_values_and_kinds.Holds := by
  w_on; o_law; k_head; (case hw => w_witness2)
  k_fill
  refine BkG.walk_ofTs2 (l := PySem.Challenge.rw_backagain_k03_whole_values_and_kinds) (n := 63) (k := 9) (x := "script") (CX := fun _ => L2.CX0) rfl (by decide) rfl ⟨rfl, by decide, by decide⟩ (fun w h Y => PySem.W.km_in_of Y) ?F (fun _ _ _ _ _ h => h)
  case F =>
    intro w mg fa h Y KX G tab hmg
    refine' BkL.all_mk KX G hmg (fun {c P'} ht => tab (x' := "law") (by rfl) ht) ?a0 ?l0 ?c0 ?k0 ?a1 ?l1 ?c1 ?k1 ?a2 ?l2 ?c2 ?k2 ?a3 ?l3 ?c3 ?k3 ?a4 ?l4 ?c4 ?k4 ?a5 ?l5 ?c5 ?k5 ?a6 ?l6 ?c6 ?k6 ?a7 ?l7 ?c7 ?k7 ?a8 ?l8 ?c8 ?k8 ?a9 ?l9 ?c9 ?k9 ?a10 ?l10 ?c10 ?k10 ?a11 ?l11 ?c11 ?k11 ?a12 ?l12 ?c12 ?k12 ?a13 ?l13 ?c13 ?k13 ?a14 ?l14 ?c14 ?k14 ?a15 ?l15 ?c15 ?k15 ?a16 ?l16 ?c16 ?k16 ?a17 ?l17 ?c17 ?k17 ?a18 ?l18 ?c18 ?k18 ?a19 ?l19 ?c19 ?k19 ?a20 ?l20 ?c20 ?k20 ?a21 ?l21 ?c21 ?k21 ?a22 ?l22 ?c22 ?k22 ?a23 ?l23 ?c23 ?k23 ?a24 ?l24 ?c24 ?k24 ?a25 ?l25 ?c25 ?k25 ?aL ?lL ?cL_ ?lcL ?pvL ?nPL ?eC_0 ?ex_0 ?esa_0 ?ega_0 ?egg_0 ?eno_0 ?ei_0 ?et_0 ?ek_0 ?eb_0 ?ev_0 ?ety_0 ?eh_0 ?eis_0 ?ess_0 ?emr_0 ?esu_0 ?il_0 ?ic_0 ?icl_0 ?ico_0 ?iv_0 ?iff_0 ?eC_1 ?ex_1 ?esa_1 ?ega_1 ?egg_1 ?eno_1 ?ei_1 ?et_1 ?ek_1 ?eb_1 ?ev_1 ?ety_1 ?eh_1 ?eis_1 ?ess_1 ?emr_1 ?esu_1 ?il_1 ?ic_1 ?icl_1 ?ico_1 ?iv_1 ?iff_1 ?eC_2 ?ex_2 ?esa_2 ?ega_2 ?egg_2 ?eno_2 ?ei_2 ?et_2 ?ek_2 ?eb_2 ?ev_2 ?ety_2 ?eh_2 ?eis_2 ?ess_2 ?emr_2 ?esu_2 ?il_2 ?ic_2 ?icl_2 ?ico_2 ?iv_2 ?iff_2 ?noSup ?opAny ?topSup ?x_x21 ?x_x31 ?x_x32 ?gc0 ?gc1 ?gc2 ?gc3 ?pg0 ?pl0 ?z_abs ?z_int ?z_len ?z_range ?z_isinstance ?z_tuple ?z_list ?z_bool ?z_str ?z_zip ?z_enumerate ?z_sorted ?z_min ?z_max ?z_all ?z_any ?z_sum ?z_dict
    (case a0 => k_is); (case l0 => k_is); (case c0 => k_is); (case k0 => k_is); (case a1 => k_is); (case l1 => k_is); (case c1 => k_is); (case k1 => k_is); (case a2 => k_is); (case l2 => k_is); (case c2 => k_is); (case k2 => k_is); (case a3 => k_is); (case l3 => k_is); (case c3 => k_is); (case k3 => k_is); (case a4 => k_is); (case l4 => k_is); (case c4 => k_is); (case k4 => k_is); (case a5 => k_is); (case l5 => k_is); (case c5 => k_is); (case k5 => k_is); (case a6 => k_is); (case l6 => k_is); (case c6 => k_is); (case k6 => k_is); (case a7 => k_is); (case l7 => k_is); (case c7 => k_is); (case k7 => k_is); (case a8 => k_is); (case l8 => k_is); (case c8 => k_is); (case k8 => k_is); (case a9 => k_is); (case l9 => k_is); (case c9 => k_is); (case k9 => k_is); (case a10 => k_is); (case l10 => k_is); (case c10 => k_is); (case k10 => k_is); (case a11 => k_is); (case l11 => k_is); (case c11 => k_is); (case k11 => k_is); (case a12 => k_is); (case l12 => k_is); (case c12 => k_is); (case k12 => k_is); (case a13 => k_is); (case l13 => k_is); (case c13 => k_is); (case k13 => k_is); (case a14 => k_is); (case l14 => k_is); (case c14 => k_is); (case k14 => k_is); (case a15 => k_is); (case l15 => k_is); (case c15 => k_is); (case k15 => k_is); (case a16 => k_is); (case l16 => k_is); (case c16 => k_is); (case k16 => k_is); (case a17 => k_is); (case l17 => k_is); (case c17 => k_is); (case k17 => k_is); (case a18 => k_is); (case l18 => k_is); (case c18 => k_is); (case k18 => k_is); (case a19 => k_is); (case l19 => k_is); (case c19 => k_is); (case k19 => k_is); (case a20 => k_is); (case l20 => k_is); (case c20 => k_is); (case k20 => k_is); (case a21 => k_is); (case l21 => k_is); (case c21 => k_is); (case k21 => k_is); (case a22 => k_is); (case l22 => k_is); (case c22 => k_is); (case k22 => k_is); (case a23 => k_is); (case l23 => k_is); (case c23 => k_is); (case k23 => k_is); (case a24 => k_is); (case l24 => k_is); (case c24 => k_is); (case k24 => k_is); (case a25 => k_is); (case l25 => k_is); (case c25 => k_is); (case k25 => k_is); (case aL => k_is); (case lL => k_is); (case cL_ => k_is); (case lcL => k_is); (case pvL => rfl); (case nPL => first | rfl | decide +kernel | kernel_rfl); (case eC_0 => k_is); (case ex_0 => k_is); (case esa_0 => k_is); (case ega_0 => k_is); (case egg_0 => k_is); (case eno_0 => k_is); (case ei_0 => k_is); (case et_0 => k_is); (case ek_0 => k_is); (case eb_0 => k_is); (case ev_0 => k_is); (case ety_0 => k_is); (case eh_0 => k_is); (case eis_0 => k_is); (case ess_0 => first | rfl | k_is); (case emr_0 => k_is); (case esu_0 => ks_is); (case il_0 => k_is); (case ic_0 => k_is); (case icl_0 => k_is); (case ico_0 => k_is); (case iv_0 => rfl); (case iff_0 => first | rfl | decide +kernel); (case eC_1 => k_is); (case ex_1 => k_is); (case esa_1 => k_is); (case ega_1 => k_is); (case egg_1 => k_is); (case eno_1 => k_is); (case ei_1 => k_is); (case et_1 => k_is); (case ek_1 => k_is); (case eb_1 => k_is); (case ev_1 => k_is); (case ety_1 => k_is); (case eh_1 => k_is); (case eis_1 => k_is); (case ess_1 => first | rfl | k_is); (case emr_1 => k_is); (case esu_1 => ks_is); (case il_1 => k_is); (case ic_1 => k_is); (case icl_1 => k_is); (case ico_1 => k_is); (case iv_1 => rfl); (case iff_1 => first | rfl | decide +kernel); (case eC_2 => k_is); (case ex_2 => k_is); (case esa_2 => k_is); (case ega_2 => k_is); (case egg_2 => k_is); (case eno_2 => k_is); (case ei_2 => k_is); (case et_2 => k_is); (case ek_2 => k_is); (case eb_2 => k_is); (case ev_2 => k_is); (case ety_2 => k_is); (case eh_2 => k_is); (case eis_2 => k_is); (case ess_2 => first | rfl | k_is); (case emr_2 => k_is); (case esu_2 => ks_is); (case il_2 => k_is); (case ic_2 => k_is); (case icl_2 => k_is); (case ico_2 => k_is); (case iv_2 => rfl); (case iff_2 => first | rfl | decide +kernel); (case noSup => k_is); (case opAny => k_is); (case topSup => first | rfl | decide +kernel); (case x_x21 => k_is); (case x_x31 => k_is); (case x_x32 => k_is); (case gc0 => k_is); (case gc1 => k_is); (case gc2 => k_is); (case gc3 => k_is); (case pg0 => k_is); (case pl0 => k_is); (case z_abs => k_is); (case z_int => k_is); (case z_len => k_is); (case z_range => k_is); (case z_isinstance => k_is); (case z_tuple => k_is); (case z_list => k_is); (case z_bool => k_is); (case z_str => k_is); (case z_zip => k_is); (case z_enumerate => k_is); (case z_sorted => k_is); (case z_min => k_is); (case z_max => k_is); (case z_all => k_is); (case z_any => k_is); (case z_sum => k_is); (case z_dict => k_is)

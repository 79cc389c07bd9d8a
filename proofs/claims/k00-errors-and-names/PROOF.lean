import PyProof.Rows.All
import Wide.All
import OpenK.AllK
import Wide.FinOn
import HandS.ForMost
import HandS.Wide
import HandS.IsInst
import HandS.EndBits
import HandS.Style
import HandS.Codes
import HandS.Conv
import HandS.Zip
import HandS.TupAny
import HandS.LawCells
import HandS.Steps
import HandS.Defaults
import KE.GoesMore
import KE.GoesEnum
import HandS.More
import KE.KDictZip
import HandS.ExcSuper
import HandS.ForExc
import HandS.ExcCtx
import KE.KExcSuper
import KE.RegKSuper
import HandS.TryMany
import HandS.EndTab
import HandS.Walk
import HandS.Comp
import HandS.HotCalls
import HandS.Hot
import HandS.ExcIs
import HandS.ExcField
import KE.KExcIs
import PyProof.StrOps2
import PySem.Challenge.RW_backagain_k00_errors_and_names
set_option Elab.async false
set_option linter.all false
set_option maxRecDepth 100000
set_option maxHeartbeats 4000000
section
namespace BkG
open PySem PySem.Spec PyProof.Rows L2

/-! ### heaps: all that stood stands; all but what is in M -/
abbrev Ex (H H' : Hp) : Prop := Same H H'
def Kp (M : List Addr) (H H' : Hp) : Prop := ∀ a o, H a = some o → a ∉ M → H' a = some o
theorem Ex.new {H : Hp} {p : Addr} {o : HO} (h : H p = none) : Ex H (upd H p o) := fun a u e => by
  rw [upd_ne (ne_of_none e h)]; exact e
theorem Kp.refl (M : List Addr) (H : Hp) : Kp M H H := fun _ _ h _ => h
theorem Kp.of {M : List Addr} {H H' : Hp} (e : Ex H H') : Kp M H H' := fun a o h _ => e a o h
theorem Kp.trans {M : List Addr} {H H1 H2 : Hp} (a : Kp M H H1) (b : Kp M H1 H2) : Kp M H H2 := fun x o h n => b x o (a x o h n) n
theorem Kp.ex {M : List Addr} {H H1 H2 : Hp} (a : Kp M H H1) (b : Ex H1 H2) : Kp M H H2 := fun x o h n => b x o (a x o h n)
theorem Kp.pre {M : List Addr} {H H1 H2 : Hp} (a : Ex H H1) (b : Kp M H1 H2) : Kp M H H2 := fun x o h n => b x o (a x o h) n
/-- a change at a place that H does not know -/
theorem Kp.mut {M : List Addr} {H H1 H2 : Hp} {D : Addr} (a : Kp M H H1) (hD : H D = none) (b : ∀ x o, x ≠ D → H1 x = some o → H2 x = some o) : Kp M H H2 := fun x o h n => b x o (ne_of_none h hD) (a x o h n)
theorem Ex.mut {H H1 H2 : Hp} {D : Addr} (a : Ex H H1) (hD : H D = none) (b : ∀ x o, x ≠ D → H1 x = some o → H2 x = some o) : Ex H H2 := fun x o h => b x o (ne_of_none h hD) (a x o h)
theorem Kp.nil {H H' : Hp} (k : Kp [] H H') : Ex H H' := fun a o h => k a o h (by simp)
theorem Ex.kp {H H' : Hp} (k : Ex H H') : Kp [] H H' := Kp.of k
theorem Ex.fresh {H H' : Hp} (e : Ex H H') {l : Addr} (h : H' l = none) : H l = none := Same.free e h
theorem Ex.sqL {K : PySem.W.Frag} {H H' : Hp} {a : Addr} {xs : List V} (e : Ex H H') (h : SqL K H a xs) : SqL K H' a xs := Same.seq e h
theorem Ex.sqT {K : PySem.W.Frag} {H H' : Hp} {a : Addr} {xs : List V} (e : Ex H H') (h : SqT K H a xs) : SqT K H' a xs := by
  rcases h with (h | ⟨o, h⟩) | h
  · exact .inl (.inl (e _ _ h))
  · exact .inl (.inr ⟨o, e _ _ h⟩)
  · exact .inr h

/-! ### data -/
/-- d stands at v; its lists are none of those that change -/
inductive Dv (M : List Addr) (H : Hp) : V → PyData → Prop
  | non : Dv M H .non .none
  | bl (b : Bool) : Dv M H (.bl b) (.bool b)
  | int (i : Int) : Dv M H (.int i) (.int i)
  | str (x : Str) : Dv M H (.str x) (.str x)
  | lst {a : Addr} {xs : List V} {ds : List PyData} (h : H a = some (.lst xs)) (n : a ∉ M) (l : xs.length = ds.length) (t : ∀ (i : Nat) (v : V) (d : PyData), xs[i]? = some v → ds[i]? = some d → Dv M H v d) : Dv M H (.ref a) (.list ds)
  | tup {a : Addr} {xs : List V} {ds : List PyData} (h : H a = some (.tup xs)) (l : xs.length = ds.length) (t : ∀ (i : Nat) (v : V) (d : PyData), xs[i]? = some v → ds[i]? = some d → Dv M H v d) : Dv M H (.ref a) (.tuple ds)
/-- tuples of H stay, lists but those of M stay -/
def Kd (M : List Addr) (H H' : Hp) : Prop := (∀ a xs, H a = some (.tup xs) → H' a = some (.tup xs)) ∧ ∀ a xs, H a = some (.lst xs) → a ∉ M → H' a = some (.lst xs)
theorem Kd.of_ex {M : List Addr} {H H' : Hp} (e : Ex H H') : Kd M H H' := ⟨fun a xs h => e a _ h, fun a xs h _ => e a _ h⟩
theorem Dv.keep {M : List Addr} {H H' : Hp} (k : Kd M H H') {v : V} {d : PyData} (h : Dv M H v d) : Dv M H' v d := by
  induction h with
  | non => exact .non
  | bl b => exact .bl b
  | int i => exact .int i
  | str x => exact .str x
  | lst h n l t ih => exact .lst (k.2 _ _ h n) n l ih
  | tup h l t ih => exact .tup (k.1 _ _ h) l ih
theorem Dv.ex {M : List Addr} {H H' : Hp} (e : Ex H H') {v : V} {d : PyData} (h : Dv M H v d) : Dv M H' v d := h.keep (Kd.of_ex e)
theorem Dv.weak {M M' : List Addr} {H : Hp} {v : V} {d : PyData} (h : Dv M H v d) (s : ∀ a, a ∈ M' → a ∈ M) : Dv M' H v d := by
  induction h with
  | non => exact .non
  | bl b => exact .bl b
  | int i => exact .int i
  | str x => exact .str x
  | lst h n l t ih => exact .lst h (fun z => n (s _ z)) l ih
  | tup h l t ih => exact .tup h l ih
theorem dpAll_of {K : PySem.W.Frag} {H : Hp} : ∀ {xs : List V} {ds : List PyData}, xs.length = ds.length → (∀ (i : Nat) (v : V) (d : PyData), xs[i]? = some v → ds[i]? = some d → Dp K H v d) → DpAll K H xs ds
  | [], [], _, _ => .nil
  | [], _ :: _, h, _ => by simp at h
  | _ :: _, [], h, _ => by simp at h
  | x :: xs, d :: ds, h, t => .cons (t 0 x d rfl rfl) (dpAll_of (by simpa using h) fun i v d h1 h2 => t (i + 1) v d (by simpa using h1) (by simpa using h2))
theorem Dv.dp {K : PySem.W.Frag} {M : List Addr} {H : Hp} {v : V} {d : PyData} (h : Dv M H v d) : Dp K H v d := by
  induction h with
  | non => exact .non
  | bl b => exact .bl b
  | int i => exact .int i
  | str x => exact .str x
  | lst h n l t ih => exact .lst (.of h) (dpAll_of l ih)
  | tup h l t ih => exact .tup (.of h) (dpAll_of l ih)
end BkG
end
section
namespace BkG
open PySem PySem.Spec L2
/-! ### readings, one step a lemma -/
section
variable {K : PySem.W.Frag} {σ : St} {H : Hp} {Q : VK} {QB : Bool → Hp → Prop} {QA : List V → Hp → Prop} {i : Nat} {v x y : V} {ta tb tc te : TE} {t u : TT} {a tr : TA} {r r' : R2} {b : Bool}
theorem w_var (h : σ[i]? = some (some v)) (q : Q v H) : tVar i σ H Q := ⟨v, h, q⟩
theorem w_c (q : Q v H) : tC v σ H Q := q
theorem w_op (h : ta σ H fun x H1 => tb σ H1 fun y H2 => r x y H2 Q) : tOp r ta tb σ H Q := h
theorem w_un {r : V → Hp → VK → Prop} (h : ta σ H fun x H1 => r x H1 Q) : tUn r ta σ H Q := h
theorem w_nil (q : QA [] H) : tNil σ H QA := q
theorem w_cons (h : ta σ H fun x H1 => tr σ H1 fun xs H2 => QA (x :: xs) H2) : tCons ta tr σ H QA := h
theorem w_cb {r : List V → Hp → VK → Prop} (h : a σ H fun vs H1 => r vs H1 Q) : tCB r a σ H Q := h
theorem w_call {sp : Sp} {dvs : List V} {E : XK} (h : a σ H fun vs H1 => sp (vs ++ dvs) H1 Q E) : tCall sp dvs E a σ H Q := h
theorem w_bm {T : String} {r : V → List V → Hp → VK → Prop} (h : te σ H fun x H1 => tyV K T x H1 ∧ a σ H1 fun xs H2 => r x xs H2 Q) : tBM K T r te a σ H Q := h
theorem w_bm0 {T : String} {r : V → List V → Hp → VK → Prop} (h : te σ H fun x H1 => tyV K T x H1 ∧ r x [] H1 Q) : tBM0 K T r te σ H Q := h
/-- a new tuple, a new list -/
def aTup (Q : VK) : List V → Hp → Prop := fun xs H1 => xs.length ≤ sizeLine ∧ ∀ p, H1 p = none → Q (.ref p) (upd H1 p (.tup xs))
def aLst (Q : VK) : List V → Hp → Prop := fun xs H1 => xs.length ≤ sizeLine ∧ ∀ p, H1 p = none → Q (.ref p) (upd H1 p (.lst xs))
theorem w_tup (h : a σ H (aTup Q)) : tTup a σ H Q := h
theorem w_lst (h : a σ H (aLst Q)) : tLst a σ H Q := h
theorem sz_of {n : Nat} (h : n ≤ 100000) : n ≤ sizeLine := Nat.le_trans h (by decide)
theorem sz_lt {n : Nat} (h : n < 100000) : n < sizeLine := Nat.lt_of_lt_of_le h (by decide)
theorem a_tup {vs : List V} (hl : vs.length ≤ 100000) (q : ∀ p H2, H p = none → Ex H H2 → H2 p = some (.tup vs) → Q (.ref p) H2) : aTup Q vs H := ⟨sz_of hl, fun p hp => q p _ hp (Ex.new hp) upd_same⟩
theorem a_lst {vs : List V} (hl : vs.length ≤ 100000) (q : ∀ p H2, H p = none → Ex H H2 → H2 p = some (.lst vs) → Q (.ref p) H2) : aLst Q vs H := ⟨sz_of hl, fun p hp => q p _ hp (Ex.new hp) upd_same⟩
/-! operators by values -/
theorem r_I0 {g : Int → Int → V} {i j : Int} (q : Q (g i j) H) : rI0 g (.int i) (.int j) H Q := ⟨i, j, rfl, rfl, q⟩
theorem r_I {C : Int → Int → Prop} {g : Int → Int → V} {i j : Int} (hc : C i j) (q : Q (g i j) H) : rI C g (.int i) (.int j) H Q := ⟨i, j, rfl, rfl, hc, q⟩
theorem r_U {g : Int → V} {i : Int} (q : Q (g i) H) : rU g (.int i) H Q := ⟨i, rfl, q⟩
theorem r_eqI {i j : Int} (q : Q (.bl (decide (i = j))) H) : rEq (.int i) (.int j) H Q := ⟨rfl, by rw [show decide (V.int i = V.int j) = decide (i = j) by by_cases h : i = j <;> simp [h]]; exact q⟩
theorem r_neI {i j : Int} (q : Q (.bl (!decide (i = j))) H) : rNe (.int i) (.int j) H Q := ⟨rfl, by rw [show decide (V.int i = V.int j) = decide (i = j) by by_cases h : i = j <;> simp [h]]; exact q⟩
theorem r_eqS {i j : Str} (q : Q (.bl (decide (i = j))) H) : rEq (.str i) (.str j) H Q := ⟨rfl, by rw [show decide (V.str i = V.str j) = decide (i = j) by by_cases h : i = j <;> simp [h]]; exact q⟩
theorem r_neS {i j : Str} (q : Q (.bl (!decide (i = j))) H) : rNe (.str i) (.str j) H Q := ⟨rfl, by rw [show decide (V.str i = V.str j) = decide (i = j) by by_cases h : i = j <;> simp [h]]; exact q⟩
theorem r_eqB {i j : Bool} (q : Q (.bl (decide (i = j))) H) : rEq (.bl i) (.bl j) H Q := ⟨rfl, by rw [show decide (V.bl i = V.bl j) = decide (i = j) by by_cases h : i = j <;> simp [h]]; exact q⟩
theorem r_neB {i j : Bool} (q : Q (.bl (!decide (i = j))) H) : rNe (.bl i) (.bl j) H Q := ⟨rfl, by rw [show decide (V.bl i = V.bl j) = decide (i = j) by by_cases h : i = j <;> simp [h]]; exact q⟩
theorem r_ixL {p : Addr} {xs : List V} {i : Int} (h : SqL K H p xs) (e : atI xs i = some v) (q : Q v H) : rIxL K (.ref p) (.int i) H Q := ⟨p, xs, i, v, rfl, rfl, h, e, q⟩
theorem r_ixT {p : Addr} {xs : List V} {i : Int} (h : SqT K H p xs) (e : atI xs i = some v) (q : Q v H) : rIxT K (.ref p) (.int i) H Q := ⟨p, xs, i, v, rfl, rfl, h, e, q⟩
theorem r_setL {p : Addr} {xs : List V} {k : Int} {j : Nat} {QH : Hp → Prop} (h : H p = some (.lst xs)) (e : ixN xs.length k = some j) (q : ∀ H2, Kp [p] H H2 → H2 p = some (.lst (xs.set j v)) → QH H2) : rSetL (.ref p) (.int k) v H QH :=
  ⟨p, xs, k, j, rfl, rfl, h, e, q _ (fun a o ha n => by rw [upd_ne (by simpa using n)]; exact ha) upd_same⟩
theorem r_append {p : Addr} {xs : List V} (h : H p = some (.lst xs)) (hz : xs.length < 100000) (q : ∀ H2, Kp [p] H H2 → H2 p = some (.lst (xs ++ [v])) → Q .non H2) : rAppend (.ref p) [v] H Q :=
  ⟨p, xs, v, rfl, rfl, h, sz_lt hz, q _ (fun a o ha n => by rw [upd_ne (by simpa using n)]; exact ha) upd_same⟩
theorem r_pop {p : Addr} {xs : List V} {y : V} (h : H p = some (.lst xs)) (e : xs[xs.length - 1]? = some y) (q : ∀ H2, Kp [p] H H2 → H2 p = some (.lst xs.dropLast) → Q y H2) : rPop (.ref p) [] H Q :=
  ⟨p, xs, y, rfl, rfl, h, e, q _ (fun a o ha n => by rw [upd_ne (by simpa using n)]; exact ha) upd_same⟩
theorem ty_list {p : Addr} {xs : List V} (h : H p = some (.lst xs)) : tyV K "list" (.ref p) H := .inl ⟨rfl, _, .inl (.inl h)⟩
theorem r_len {p : Addr} {xs : List V} {n : Nat} (h : SqL K H p xs ∨ SqT K H p xs) (e : xs.length = n) (q : Q (.int n) H) : rLen K [.ref p] H Q := by
  subst e
  rcases h with h | h
  · exact ⟨_, _, rfl, .inl ⟨xs, h, rfl⟩, q⟩
  · exact ⟨_, _, rfl, .inr ⟨xs, h, rfl⟩, q⟩
theorem r_lenS {z : Str} (h : z.length ≤ sizeLine) (q : Q (.int z.length) H) : rLen K [.str z] H Q := ⟨_, _, rfl, ⟨h, rfl⟩, q⟩
theorem r_eqD {d e : PyData} (h1 : Dp K H x d) (h2 : Dp K H y e) (s1 : SeqAt.shaped d = true) (s2 : SeqAt.shaped e = true) (q : Q (.bl (PyData.eqv d e)) H) : rEqD K x y H Q := ⟨d, e, h1, h2, s1, s2, q⟩
theorem r_neD {d e : PyData} (h1 : Dp K H x d) (h2 : Dp K H y e) (s1 : SeqAt.shaped d = true) (s2 : SeqAt.shaped e = true) (q : Q (.bl (!PyData.eqv d e)) H) : rNeD K x y H Q := ⟨d, e, h1, h2, s1, s2, q⟩
theorem r_cat {p q' : Addr} {xs zs : List V} (h : H p = some (.lst xs)) (h' : H q' = some (.lst zs)) (hz : xs.length + zs.length ≤ 100000) (q : ∀ l H2, H l = none → Ex H H2 → H2 l = some (.lst (xs ++ zs)) → Q (.ref l) H2) : rCat (.ref p) (.ref q') H Q :=
  ⟨p, q', xs, zs, rfl, rfl, h, h', sz_of hz, fun l hl => q l _ hl (Ex.new hl) upd_same⟩
theorem r_slL {p : Addr} {xs : List V} {lo hi : Option Int} (h : SqL K H p xs) (q : ∀ l H2, H l = none → Ex H H2 → H2 l = some (.lst (cutV xs lo hi)) → Q (.ref l) H2) : rSlL K (.ref p) lo hi H Q :=
  ⟨p, xs, rfl, h, fun l hl => q l _ hl (Ex.new hl) upd_same⟩
/-- len of anything with a length, by name -/
def rAbs : List V → Hp → VK → Prop := fun xs H Q => ∃ i, xs = [.int i] ∧ Q (.int (if i < 0 then -i else i)) H
def rInt1 : List V → Hp → VK → Prop := fun xs H Q => (∃ i, xs = [.int i] ∧ Q (.int i) H) ∨ ∃ k, xs = [.bl k] ∧ Q (.int (if k then 1 else 0)) H
theorem cr_abs {X : Cx} : CallR X (.builtin "abs") rAbs := call_abs
theorem cr_int {X : Cx} : CallR X (.type "int") rInt1 := call_int1
theorem cr_len {X : Cx} : CallR X (.builtin "len") (rLen X.K) := call_len
theorem r_abs {i : Int} (q : Q (.int (i.natAbs : Int)) H) : rAbs [.int i] H Q := ⟨i, rfl, by
  have e : (if i < 0 then -i else i) = (i.natAbs : Int) := by split <;> omega
  rw [e]; exact q⟩
theorem r_int {i : Int} (q : Q (.int i) H) : rInt1 [.int i] H Q := .inl ⟨i, rfl, q⟩
theorem r_intB {k : Bool} (q : Q (.int (if k then 1 else 0)) H) : rInt1 [.bl k] H Q := .inr ⟨k, rfl, q⟩
/-! parts of a slice, xs[::-1] -/
theorem w_sl {r : V → Option Int → Option Int → Hp → VK → Prop} {tl th : TO} (h : te σ H fun x H1 => tl σ H1 fun l H2 => th σ H2 fun u H3 => r x l u H3 Q) : tSl r te tl th σ H Q := h
theorem w_nop {QO : Option Int → Hp → Prop} (q : QO none H) : tNoPart σ H QO := q
def kPart (QO : Option Int → Hp → Prop) : VK := fun x H1 => ∃ i, x = .int i ∧ QO (some i) H1
theorem w_part {QO : Option Int → Hp → Prop} (h : te σ H (kPart QO)) : tPart te σ H QO := h
theorem k_part {QO : Option Int → Hp → Prop} {i : Int} (q : QO (some i) H) : kPart QO (.int i) H := ⟨i, rfl, q⟩
def kRevL (K : PySem.W.Frag) (Q : VK) : VK := fun x H1 => ∃ a xs, x = .ref a ∧ SqL K H1 a xs ∧ ∀ p, H1 p = none → Q (.ref p) (upd H1 p (.lst xs.reverse))
theorem w_revL (h : te σ H (kRevL K Q)) : tRevL K te σ H Q := h
theorem k_revL {p : Addr} {xs : List V} (h : SqL K H p xs) (q : ∀ l H2, H l = none → Ex H H2 → H2 l = some (.lst xs.reverse) → Q (.ref l) H2) : kRevL K Q (.ref p) H := ⟨p, xs, rfl, h, fun l hl => q l _ hl (Ex.new hl) upd_same⟩
/-! tests -/
def kB (QB : Bool → Hp → Prop) : VK := fun x H1 => ∃ c, x = .bl c ∧ QB c H1
theorem w_test (h : te σ H (kB QB)) : tTest te σ H QB := h
theorem w_B (h : te σ H (kB QB)) : tB te σ H QB := h
theorem k_B (q : QB b H) : kB QB (.bl b) H := ⟨b, rfl, q⟩
theorem w_and (h : t σ H fun c H1 => if c = true then u σ H1 QB else QB false H1) : tAnd t u σ H QB := h
theorem w_or (h : t σ H fun c H1 => if c = true then QB true H1 else u σ H1 QB) : tOr t u σ H QB := h
theorem w_not (h : t σ H fun c H1 => QB (!c) H1) : tNot t σ H QB := h
theorem w_yes (q : QB true H) : tYes σ H QB := q
def kAndV (tb : TE) (σ : St) (Q : VK) : VK := fun x H1 => ∃ c, x = .bl c ∧ if c = true then tb σ H1 Q else Q (.bl false) H1
def kOrV (tb : TE) (σ : St) (Q : VK) : VK := fun x H1 => ∃ c, x = .bl c ∧ if c = true then Q (.bl true) H1 else tb σ H1 Q
def kNotV (Q : VK) : VK := fun x H1 => ∃ c, x = .bl c ∧ Q (.bl (!c)) H1
theorem w_andV (h : ta σ H (kAndV tb σ Q)) : tAndV ta tb σ H Q := h
theorem w_orV (h : ta σ H (kOrV tb σ Q)) : tOrV ta tb σ H Q := h
theorem w_notV (h : ta σ H (kNotV Q)) : tNotV ta σ H Q := h
theorem k_andV (q : if b = true then tb σ H Q else Q (.bl false) H) : kAndV tb σ Q (.bl b) H := ⟨b, rfl, q⟩
theorem k_orV (q : if b = true then Q (.bl true) H else tb σ H Q) : kOrV tb σ Q (.bl b) H := ⟨b, rfl, q⟩
theorem k_notV (q : Q (.bl (!b)) H) : kNotV Q (.bl b) H := ⟨b, rfl, q⟩
theorem w_if (h : t σ H fun c H1 => if c = true then ta σ H1 Q else tb σ H1 Q) : tIf t ta tb σ H Q := h
theorem w_chain (h : ta σ H fun x H1 => tb σ H1 fun y H2 => r x y H2 fun z H3 => ∃ k, z = .bl k ∧ (if k = true then tc σ H3 fun w' H4 => r' y w' H4 Q else Q (.bl false) H3)) : tChain r r' ta tb tc σ H Q := h
theorem ex_bl {k : Bool} {A : Bool → Prop} (h : A k) : ∃ k', V.bl k = .bl k' ∧ A k' := ⟨k, rfl, h⟩
theorem w_isN (h : ta σ H fun x H1 => Q (.bl (decide (x = .non))) H1) : tIsN ta σ H Q := h
theorem w_notN (h : ta σ H fun x H1 => Q (.bl (!decide (x = .non))) H1) : tNotN ta σ H Q := h
end
theorem if_pos' {A B : Prop} (h : A) : if true = true then A else B := by rw [if_pos rfl]; exact h
theorem if_neg' {A B : Prop} (h : B) : if false = true then A else B := by rw [if_neg Bool.false_ne_true]; exact h
theorem if_by {b : Bool} {A B : Prop} (h1 : b = true → A) (h2 : b = false → B) : if b = true then A else B := by
  cases b with
  | true => exact if_pos' (h1 rfl)
  | false => exact if_neg' (h2 rfl)
/-! ### statements -/
section
variable {K : PySem.W.Frag} {σ : St} {H : Hp} {i : Nat} {v : V} {te : TE} {c : TT} {t u z : TS} {f bk ct : St → Hp → Prop} {rt : VK} {g : TG}
theorem w_seq (h : t ⟨u ⟨f, rt, bk, ct⟩, rt, bk, ct⟩ σ H) : tSeq t u ⟨f, rt, bk, ct⟩ σ H := h
theorem w_set (h : te σ H fun x H1 => f (σ.set i (some x)) H1) : tAsg te (gName i) ⟨f, rt, bk, ct⟩ σ H := h
theorem w_asg (h : te σ H fun x H1 => g x σ H1 f) : tAsg te g ⟨f, rt, bk, ct⟩ σ H := h
theorem w_drop (h : te σ H fun _ H1 => f σ H1) : tDrop te ⟨f, rt, bk, ct⟩ σ H := h
theorem w_ret (h : te σ H rt) : tRet te ⟨f, rt, bk, ct⟩ σ H := h
theorem w_retN (h : rt .non H) : tRetN ⟨f, rt, bk, ct⟩ σ H := h
theorem w_next (h : f σ H) : tNext ⟨f, rt, bk, ct⟩ σ H := h
theorem w_brk (h : bk σ H) : tBreak ⟨f, rt, bk, ct⟩ σ H := h
theorem w_cont (h : ct σ H) : tCont ⟨f, rt, bk, ct⟩ σ H := h
theorem w_ifS (h : c σ H fun b H1 => if b = true then t ⟨f, rt, bk, ct⟩ σ H1 else u ⟨f, rt, bk, ct⟩ σ H1) : tIfS c t u ⟨f, rt, bk, ct⟩ σ H := h
theorem w_aug {ti : TIp} (h : σ[i]? = some (some v)) (q : te σ H fun y H1 => ti v y H1 fun z H2 => f (σ.set i (some z)) H2) : tAug i te ti ⟨f, rt, bk, ct⟩ σ H := ⟨v, h, q⟩
theorem i_I {fn : Int → Int → Int} {a b : Int} {Q : VK} (q : Q (.int (fn a b)) H) : ipI fn (.int a) (.int b) H Q := ⟨a, b, rfl, rfl, q⟩
theorem w_gname {QS : St → Hp → Prop} (q : QS (σ.set i (some v)) H) : gName i v σ H QS := q
theorem w_gsub {to ti : TE} {ts : TSet} {QS : St → Hp → Prop} (h : to σ H fun o H1 => ti σ H1 fun i H2 => ts o i v H2 fun H3 => QS σ H3) : gSub to ti ts v σ H QS := h
theorem w_gtup {n : Nat} {tg : TGs} {p : Addr} {xs : List V} {QS : St → Hp → Prop} (h : SqT K H p xs) (e : xs.length = n) (q : tg xs σ H QS) : gTup K n tg (.ref p) σ H QS := ⟨p, xs, rfl, h, e, q⟩
theorem w_gnil {QS : St → Hp → Prop} (q : QS σ H) : gNil [] σ H QS := ⟨rfl, q⟩
theorem w_gcons {tg : TG} {us : TGs} {vs : List V} {QS : St → Hp → Prop} (q : tg v σ H fun σ' H' => us vs σ' H' QS) : gCons tg us (v :: vs) σ H QS := ⟨v, vs, rfl, q⟩
theorem w_par {i j : Nat} {ta : TA} (h : ta σ H fun vs H1 => ∃ v w, vs = [v, w] ∧ f ((σ.set i (some v)).set j (some w)) H1) : tPar i j ta ⟨f, rt, bk, ct⟩ σ H := h
theorem par_ok {i j : Nat} {x y : V} {F : St → Hp → Prop} (q : F ((σ.set i (some x)).set j (some y)) H) : ∃ v w, [x, y] = [v, w] ∧ F ((σ.set i (some v)).set j (some w)) H := ⟨x, y, rfl, q⟩
theorem par_ok3 {i j l : Nat} {x y z : V} {F : St → Hp → Prop} (q : F (((σ.set i (some x)).set j (some y)).set l (some z)) H) : ∃ u v w, [x, y, z] = [u, v, w] ∧ F (((σ.set i (some u)).set j (some v)).set l (some w)) H := ⟨x, y, z, rfl, q⟩
theorem w_par3 {i j l : Nat} {ta : TA} (h : ta σ H fun vs H1 => ∃ u v w, vs = [u, v, w] ∧ f (((σ.set i (some u)).set j (some v)).set l (some w)) H1) : tPar3 i j l ta ⟨f, rt, bk, ct⟩ σ H := h
/-- what follows, shown once -/
theorem w_cut (Post : St → Hp → Prop) (out : ∀ σ' H', Post σ' H' → f σ' H') (h : ∀ f' : St → Hp → Prop, (∀ σ' H', Post σ' H' → f' σ' H') → t ⟨f', rt, bk, ct⟩ σ H) : t ⟨f, rt, bk, ct⟩ σ H := h f out
/-! ### loops: what the walk over a value asks, and how it is shown by an invariant -/
def kFor (J : Addr → It) (S : Addr → Hp → Prop) (g : TG) (tb : TS) (D : Ends) (σ : St) : VK := fun x H1 => ∃ a, x = .ref a ∧ S a H1 ∧ ∃ W : Nat → Nat → St → Hp → Prop, (∃ m, W 0 m σ H1) ∧ ∀ i m σ H, W i m σ H →
  ((J a).stop i H ∧ D.nx σ H) ∨ ((J a).go i H ∧ ∃ N : St → Hp → Prop, (∀ σ' H', N σ' H' → ∃ m', m' < m ∧ W (i + 1) m' σ' H') ∧ ∀ x H', (J a).yld i H x H' → g x σ H' fun σ2 H2 => tb { D with nx := N, ct := N, bk := D.nx } σ2 H2)
theorem w_forL (h : te σ H (kFor (Itl K) (fun a H1 => ∃ xs, SqL K H1 a xs) g t ⟨f, rt, bk, ct⟩ σ)) : tFor (iList K te) g t ⟨f, rt, bk, ct⟩ σ H := h
theorem w_forT (h : te σ H (kFor (Itt K) (fun a H1 => ∃ xs, SqT K H1 a xs) g t ⟨f, rt, bk, ct⟩ σ)) : tFor (iTup K te) g t ⟨f, rt, bk, ct⟩ σ H := h
theorem k_forL {a : Addr} {xs : List V} (h : SqL K H a xs) (Pv : Nat → St → Hp → Prop) (h0 : Pv 0 σ H) (hl : ∀ i σ' H', i ≤ xs.length → Pv i σ' H' → SqL K H' a xs)
    (hs : ∀ i x σ' H', xs[i]? = some x → Pv i σ' H' → g x σ' H' fun σ2 H2 => t ⟨Pv (i + 1), rt, f, Pv (i + 1)⟩ σ2 H2) (hd : ∀ σ' H', Pv xs.length σ' H' → f σ' H') :
    kFor (Itl K) (fun a H1 => ∃ xs, SqL K H1 a xs) g t ⟨f, rt, bk, ct⟩ σ (.ref a) H := ⟨a, rfl, ⟨xs, h⟩, for_list (D := ⟨f, rt, bk, ct⟩) Pv h0 hl hs hd⟩
theorem k_forT {a : Addr} {xs : List V} (h : SqT K H a xs) (Pv : Nat → St → Hp → Prop) (h0 : Pv 0 σ H) (hl : ∀ i σ' H', i ≤ xs.length → Pv i σ' H' → SqT K H' a xs)
    (hs : ∀ i x σ' H', xs[i]? = some x → Pv i σ' H' → g x σ' H' fun σ2 H2 => t ⟨Pv (i + 1), rt, f, Pv (i + 1)⟩ σ2 H2) (hd : ∀ σ' H', Pv xs.length σ' H' → f σ' H') :
    kFor (Itt K) (fun a H1 => ∃ xs, SqT K H1 a xs) g t ⟨f, rt, bk, ct⟩ σ (.ref a) H := ⟨a, rfl, ⟨xs, h⟩, for_tup (D := ⟨f, rt, bk, ct⟩) Pv h0 hl hs hd⟩
/-- range(n), range(a, b) -/
def aRng1 (g : TG) (tb : TS) (D : Ends) (σ : St) : List V → Hp → Prop := fun vs H1 => ∃ j : Int, vs = [.int j] ∧ -(2 ^ 62) ≤ j ∧ j < 2 ^ 62 ∧ ∃ W : Nat → Nat → St → Hp → Prop, (∃ m, W 0 m σ H1) ∧ ∀ i m σ H, W i m σ H →
  ((Itr 0 j.toNat).stop i H ∧ D.nx σ H) ∨ ((Itr 0 j.toNat).go i H ∧ ∃ N : St → Hp → Prop, (∀ σ' H', N σ' H' → ∃ m', m' < m ∧ W (i + 1) m' σ' H') ∧ ∀ x H', (Itr 0 j.toNat).yld i H x H' → g x σ H' fun σ2 H2 => tb { D with nx := N, ct := N, bk := D.nx } σ2 H2)
theorem w_forR1 {a : TA} (h : a σ H (aRng1 g t ⟨f, rt, bk, ct⟩ σ)) : tFor (iRng1 a) g t ⟨f, rt, bk, ct⟩ σ H := h
theorem a_rng1 {n : Nat} {j : Int} (e : j = (n : Int)) (hn : n ≤ 100000000) (Pv : Nat → St → Hp → Prop) (h0 : Pv 0 σ H)
    (hs : ∀ (i : Nat) σ' H', i < n → Pv i σ' H' → g (.int (i : Int)) σ' H' fun σ2 H2 => t ⟨Pv (i + 1), rt, f, Pv (i + 1)⟩ σ2 H2) (hd : ∀ σ' H', Pv n σ' H' → f σ' H') : aRng1 g t ⟨f, rt, bk, ct⟩ σ [.int j] H := by
  subst e
  refine ⟨_, rfl, by omega, by omega, ?_⟩
  rw [Int.toNat_natCast]
  refine for_range (D := ⟨f, rt, bk, ct⟩) (lo := 0) (n := n) Pv h0 (fun i σ' H' hi p => ?_) hd
  have q := hs i σ' H' hi p
  rw [Int.zero_add]
  exact q
/-- enumerate(a list) -/
def aEnum (K : PySem.W.Frag) (g : TG) (tb : TS) (D : Ends) (σ : St) : List V → Hp → Prop := fun vs H1 => ∃ a xs, vs = [.ref a] ∧ SqL K H1 a xs ∧ ∃ W : Nat → Nat → St → Hp → Prop, (∃ m, W 0 m σ H1) ∧ ∀ i m σ H, W i m σ H →
  ((Ite K a).stop i H ∧ D.nx σ H) ∨ ((Ite K a).go i H ∧ ∃ N : St → Hp → Prop, (∀ σ' H', N σ' H' → ∃ m', m' < m ∧ W (i + 1) m' σ' H') ∧ ∀ x H', (Ite K a).yld i H x H' → g x σ H' fun σ2 H2 => tb { D with nx := N, ct := N, bk := D.nx } σ2 H2)
theorem w_forE {a : TA} (h : a σ H (aEnum K g t ⟨f, rt, bk, ct⟩ σ)) : tFor (iEnum K a) g t ⟨f, rt, bk, ct⟩ σ H := h
theorem a_enum {a : Addr} {xs : List V} (h : SqL K H a xs) (Pv : Nat → St → Hp → Prop) (h0 : Pv 0 σ H) (hl : ∀ i σ' H', i ≤ xs.length → Pv i σ' H' → SqL K H' a xs)
    (hs : ∀ i x σ' H' T H2, xs[i]? = some x → Pv i σ' H' → H' T = none → Ex H' H2 → H2 T = some (.tup [.int (i : Int), x]) → g (.ref T) σ' H2 fun σ2 H2 => t ⟨Pv (i + 1), rt, f, Pv (i + 1)⟩ σ2 H2) (hd : ∀ σ' H', Pv xs.length σ' H' → f σ' H') :
    aEnum K g t ⟨f, rt, bk, ct⟩ σ [.ref a] H := by
  refine ⟨a, xs, rfl, h, fun i m σ H => m = xs.length - i ∧ i ≤ xs.length ∧ Pv i σ H, ⟨xs.length, by simp, Nat.zero_le _, h0⟩, ?_⟩
  rintro i m σ H ⟨rfl, hi, p⟩
  have q := hl i σ H hi p
  by_cases hlt : i < xs.length
  · have hx : xs[i]? = some xs[i] := List.getElem?_eq_getElem hlt
    refine .inr ⟨⟨xs, _, q, hx⟩, Pv (i + 1), fun σ' H' p' => ⟨xs.length - (i + 1), by omega, rfl, hlt, p'⟩, fun v H' y => ?_⟩
    obtain ⟨T, x', rfl, hT, rfl, f1⟩ := y
    exact hs i x' σ H T _ (f1 xs q) p hT (Ex.new hT) upd_same
  · have e : i = xs.length := by omega
    subst e
    exact .inl ⟨⟨xs, q, Nat.le_refl _⟩, hd σ H p⟩
/-- while: an invariant, a number that falls -/
def kWh (Pv : Nat → St → Hp → Prop) (m : Nat) (tb : TS) (D : Ends) (σ : St) : Bool → Hp → Prop := fun b H1 => if b = true then ∃ N : St → Hp → Prop, (∀ σ' H', N σ' H' → ∃ m', m' < m ∧ Pv m' σ' H') ∧ tb { D with nx := N, ct := N, bk := D.nx } σ H1 else D.nx σ H1
theorem w_while (Pv : Nat → St → Hp → Prop) (m0 : Nat) (h0 : Pv m0 σ H) (hs : ∀ m σ' H', Pv m σ' H' → c σ' H' (kWh Pv m t ⟨f, rt, bk, ct⟩ σ')) : tWhile c t ⟨f, rt, bk, ct⟩ σ H := ⟨Pv, ⟨m0, h0⟩, hs⟩
theorem k_wh {Pv : Nat → St → Hp → Prop} {m : Nat} {b : Bool} (h1 : b = true → t ⟨fun σ2 H2 => ∃ m', m' < m ∧ Pv m' σ2 H2, rt, f, fun σ2 H2 => ∃ m', m' < m ∧ Pv m' σ2 H2⟩ σ H) (h2 : b = false → f σ H) : kWh Pv m t ⟨f, rt, bk, ct⟩ σ b H := by
  unfold kWh
  cases b with
  | true => rw [if_pos rfl]; exact ⟨_, fun _ _ h => h, h1 rfl⟩
  | false => rw [if_neg Bool.false_ne_true]; exact h2 rfl
end
/-! ### comprehensions: the list made so far, what is known with it -/
section
variable {K : PySem.W.Frag} {σ : St} {H : Hp} {v : V} {tl te : TE} {tt : TT} {g : TG} {vs : List Nat} {Q : VK}
/-- what a comprehension asks of what it walks -/
def LcW (J : It) (g : TG) (tt : TT) (te : TE) (vs : List Nat) (σ : St) (Q : VK) (H1 : Hp) : Prop := ∀ D, H1 D = none → ∃ W : Nat → Nat → Hp → Prop, (∃ m, W 0 m (upd H1 D (.lst []))) ∧ ∀ i m H, W i m H →
  (J.stop i H ∧ Q (.ref D) H) ∨ (J.go i H ∧ ∃ Nx : Hp → Prop, (∀ H', Nx H' → ∃ m', m' < m ∧ W (i + 1) m' H') ∧ ∀ x H', J.yld i H x H' → g x (wipe σ vs) H' fun σ2 H2 => wipe σ2 vs = wipe σ vs ∧ tt σ2 H2 fun b H3 =>
    if b = true then te σ2 H3 fun y H4 => ∃ acc, H4 D = some (.lst acc) ∧ acc.length < sizeLine ∧ Nx (upd H4 D (.lst (acc ++ [y]))) else Nx H3)
/-- at turn i: the list made so far, at D, and what is known with it -/
def Pc (P : Nat → List V → Addr → Hp → Prop) (D : Addr) (i : Nat) (H' : Hp) : Prop := ∃ acc, acc.length ≤ i ∧ H' D = some (.lst acc) ∧ P i acc D H'
def kLc (P : Nat → List V → Addr → Hp → Prop) (D : Addr) (i : Nat) : VK := fun y H4 => ∃ acc, H4 D = some (.lst acc) ∧ acc.length < sizeLine ∧ Pc P D (i + 1) (upd H4 D (.lst (acc ++ [y])))
/-- one turn's test and element, behind the target -/
def kTurn (tt : TT) (te : TE) (vs : List Nat) (P : Nat → List V → Addr → Hp → Prop) (D : Addr) (i : Nat) (σ : St) : St → Hp → Prop := fun σ2 H2 => wipe σ2 vs = wipe σ vs ∧ tt σ2 H2 fun b H3 => if b = true then te σ2 H3 (kLc P D i) else Pc P D (i + 1) H3
theorem k_turn {P : Nat → List V → Addr → Hp → Prop} {D : Addr} {i : Nat} {σ2 : St} (e : wipe σ2 vs = wipe σ vs) (q : tt σ2 H fun b H3 => if b = true then te σ2 H3 (kLc P D i) else Pc P D (i + 1) H3) : kTurn tt te vs P D i σ σ2 H := ⟨e, q⟩
theorem k_turn1 {P : Nat → List V → Addr → Hp → Prop} {D : Addr} {i : Nat} {σ2 : St} (e : wipe σ2 vs = wipe σ vs) (q : te σ2 H (kLc P D i)) : kTurn tYes te vs P D i σ σ2 H := ⟨e, by show (if true = true then te σ2 H (kLc P D i) else Pc P D (i + 1) H); rw [if_pos rfl]; exact q⟩
theorem k_lc {P : Nat → List V → Addr → Hp → Prop} {D : Addr} {i : Nat} {acc : List V} (h : H D = some (.lst acc)) (hl : acc.length ≤ i) (hi : i < 90000) (q : ∀ H5, H5 D = some (.lst (acc ++ [v])) → (∀ a o, a ≠ D → H a = some o → H5 a = some o) → P (i + 1) (acc ++ [v]) D H5) : kLc P D i v H :=
  ⟨acc, h, sz_lt (by omega), acc ++ [v], by simp; omega, upd_same, q _ upd_same fun a o n e => by rw [upd_ne n]; exact e⟩
theorem k_lcN {P : Nat → List V → Addr → Hp → Prop} {D : Addr} {i : Nat} {acc : List V} (h : H D = some (.lst acc)) (hl : acc.length ≤ i) (q : P (i + 1) acc D H) : Pc P D (i + 1) H := ⟨acc, by omega, h, q⟩
/-- over a list -/
theorem lcL {a : Addr} {xs : List V} (P : Nat → List V → Addr → Hp → Prop) (h0 : ∀ D H2, H D = none → Ex H H2 → H2 D = some (.lst []) → P 0 [] D H2) (hl : ∀ i acc D H', i ≤ xs.length → P i acc D H' → SqL K H' a xs)
    (hs : ∀ i x acc D H', xs[i]? = some x → acc.length ≤ i → H D = none → H' D = some (.lst acc) → P i acc D H' → g x (wipe σ vs) H' (kTurn tt te vs P D i σ))
    (hd : ∀ acc D H', acc.length ≤ xs.length → H D = none → H' D = some (.lst acc) → P xs.length acc D H' → Q (.ref D) H') : LcW (Itl K a) g tt te vs σ Q H := by
  intro D hD
  refine lc_list (xs := xs) (Pc P D) ⟨[], Nat.le_refl _, upd_same, h0 D _ hD (Ex.new hD) upd_same⟩ (fun i H' hi p => ?_) (fun i x H' hx p => ?_) (fun H' p => ?_)
  · obtain ⟨acc, _, _, p⟩ := p
    exact hl i acc D H' hi p
  · obtain ⟨acc, h1, h2, p⟩ := p
    exact hs i x acc D H' hx h1 hD h2 p
  · obtain ⟨acc, h1, h2, p⟩ := p
    exact hd acc D H' h1 hD h2 p
theorem lcT {a : Addr} {xs : List V} (P : Nat → List V → Addr → Hp → Prop) (h0 : ∀ D H2, H D = none → Ex H H2 → H2 D = some (.lst []) → P 0 [] D H2) (hl : ∀ i acc D H', i ≤ xs.length → P i acc D H' → SqT K H' a xs)
    (hs : ∀ i x acc D H', xs[i]? = some x → acc.length ≤ i → H D = none → H' D = some (.lst acc) → P i acc D H' → g x (wipe σ vs) H' (kTurn tt te vs P D i σ))
    (hd : ∀ acc D H', acc.length ≤ xs.length → H D = none → H' D = some (.lst acc) → P xs.length acc D H' → Q (.ref D) H') : LcW (Itt K a) g tt te vs σ Q H := by
  intro D hD
  refine lc_tup (xs := xs) (Pc P D) ⟨[], Nat.le_refl _, upd_same, h0 D _ hD (Ex.new hD) upd_same⟩ (fun i H' hi p => ?_) (fun i x H' hx p => ?_) (fun H' p => ?_)
  · obtain ⟨acc, _, _, p⟩ := p
    exact hl i acc D H' hi p
  · obtain ⟨acc, h1, h2, p⟩ := p
    exact hs i x acc D H' hx h1 hD h2 p
  · obtain ⟨acc, h1, h2, p⟩ := p
    exact hd acc D H' h1 hD h2 p
theorem lcR {n : Nat} (P : Nat → List V → Addr → Hp → Prop) (h0 : ∀ D H2, H D = none → Ex H H2 → H2 D = some (.lst []) → P 0 [] D H2)
    (hs : ∀ i acc D H', i < n → acc.length ≤ i → H D = none → H' D = some (.lst acc) → P i acc D H' → g (.int (i : Int)) (wipe σ vs) H' (kTurn tt te vs P D i σ))
    (hd : ∀ acc D H', acc.length ≤ n → H D = none → H' D = some (.lst acc) → P n acc D H' → Q (.ref D) H') : LcW (Itr 0 n) g tt te vs σ Q H := by
  intro D hD
  refine lc_range (n := n) (lo := 0) (Pc P D) ⟨[], Nat.le_refl _, upd_same, h0 D _ hD (Ex.new hD) upd_same⟩ (fun i H' hx p => ?_) (fun H' p => ?_)
  · obtain ⟨acc, h1, h2, p⟩ := p
    have q := hs i acc D H' hx h1 hD h2 p
    rw [show (0 : Int) + (i : Int) = (i : Int) from Int.zero_add _]
    exact q
  · obtain ⟨acc, h1, h2, p⟩ := p
    exact hd acc D H' h1 hD h2 p
def kLcL (K : PySem.W.Frag) (g : TG) (tt : TT) (te : TE) (vs : List Nat) (σ : St) (Q : VK) : VK := fun x H1 => ∃ a, x = .ref a ∧ (∃ xs, SqL K H1 a xs) ∧ LcW (Itl K a) g tt te vs σ Q H1
def kLcT (K : PySem.W.Frag) (g : TG) (tt : TT) (te : TE) (vs : List Nat) (σ : St) (Q : VK) : VK := fun x H1 => ∃ a, x = .ref a ∧ (∃ xs, SqT K H1 a xs) ∧ LcW (Itt K a) g tt te vs σ Q H1
def aLcR (g : TG) (tt : TT) (te : TE) (vs : List Nat) (σ : St) (Q : VK) : List V → Hp → Prop := fun us H1 => ∃ j : Int, us = [.int j] ∧ -(2 ^ 62) ≤ j ∧ j < 2 ^ 62 ∧ LcW (Itr 0 j.toNat) g tt te vs σ Q H1
theorem w_lcL (h : tl σ H (kLcL K g tt te vs σ Q)) : tLc (iList K tl) g tt te vs σ H Q := h
theorem w_lcT (h : tl σ H (kLcT K g tt te vs σ Q)) : tLc (iTup K tl) g tt te vs σ H Q := h
theorem w_lcR {a : TA} (h : a σ H (aLcR g tt te vs σ Q)) : tLc (iRng1 a) g tt te vs σ H Q := h
theorem k_lcL {a : Addr} {xs : List V} (h : SqL K H a xs) (q : LcW (Itl K a) g tt te vs σ Q H) : kLcL K g tt te vs σ Q (.ref a) H := ⟨a, rfl, ⟨xs, h⟩, q⟩
theorem k_lcT {a : Addr} {xs : List V} (h : SqT K H a xs) (q : LcW (Itt K a) g tt te vs σ Q H) : kLcT K g tt te vs σ Q (.ref a) H := ⟨a, rfl, ⟨xs, h⟩, q⟩
theorem a_lcR {n : Nat} {j : Int} (e : j = (n : Int)) (hn : n ≤ 100000000) (q : LcW (Itr 0 n) g tt te vs σ Q H) : aLcR g tt te vs σ Q [.int j] H := by
  subst e
  exact ⟨_, rfl, by omega, by omega, by rw [Int.toNat_natCast]; exact q⟩
end
end BkG
end
section
local macro_rules | `(tactic| walk_at "w1") => `(tactic| first
  | with_reducible refine w_seq ?_ | with_reducible refine w_set ?_ | with_reducible refine w_ret ?_ | with_reducible refine w_drop ?_ | with_reducible refine w_ifS ?_
  | with_reducible refine w_next ?_ | with_reducible refine w_c ?_ | (with_reducible refine w_var ?hv ?_; (case hv => rfl)) | with_reducible refine w_op ?_ | with_reducible refine w_cons ?_ | with_reducible refine w_nil ?_
  | with_reducible refine w_cb ?_ | with_reducible refine w_call ?_ | with_reducible refine w_tup ?_ | with_reducible refine w_lst ?_ | with_reducible refine w_bm ?_ | with_reducible refine w_bm0 ?_ | with_reducible refine w_un ?_
  | with_reducible refine w_test ?_ | with_reducible refine w_B ?_ | with_reducible refine k_B ?_ | with_reducible refine w_and ?_ | with_reducible refine w_or ?_ | with_reducible refine w_not ?_ | with_reducible refine w_if ?_
  | with_reducible refine w_andV ?_ | with_reducible refine w_orV ?_ | with_reducible refine w_notV ?_ | with_reducible refine k_andV ?_ | with_reducible refine k_orV ?_ | with_reducible refine k_notV ?_
  | with_reducible refine w_chain ?_ | with_reducible refine ex_bl ?_ | with_reducible refine w_isN ?_ | with_reducible refine w_notN ?_ | with_reducible refine w_yes ?_
  | with_reducible refine r_I0 ?_ | with_reducible refine r_U ?_ | with_reducible refine r_eqI ?_ | with_reducible refine r_neI ?_ | with_reducible refine r_eqS ?_ | with_reducible refine r_neS ?_ | with_reducible refine r_eqB ?_ | with_reducible refine r_neB ?_
  | with_reducible refine r_abs ?_ | with_reducible refine r_int ?_ | with_reducible refine r_intB ?_
  | with_reducible refine w_sl ?_ | with_reducible refine w_nop ?_ | with_reducible refine w_part ?_ | with_reducible refine k_part ?_ | with_reducible refine w_revL ?_
  | with_reducible refine w_asg ?_ | with_reducible refine w_gname ?_ | with_reducible refine w_gsub ?_ | with_reducible refine w_gnil ?_ | with_reducible refine w_gcons ?_ | with_reducible refine w_retN ?_ | with_reducible refine w_brk ?_ | with_reducible refine w_cont ?_
  | with_reducible refine w_par ?_ | with_reducible refine w_par3 ?_ | with_reducible refine par_ok ?_ | with_reducible refine par_ok3 ?_ | (with_reducible refine w_aug ?hv ?_; (case hv => rfl)) | with_reducible refine i_I ?_
  | with_reducible refine w_forL ?_ | with_reducible refine w_forT ?_ | with_reducible refine w_forR1 ?_ | with_reducible refine w_forE ?_ | with_reducible refine w_lcL ?_ | with_reducible refine w_lcT ?_ | with_reducible refine w_lcR ?_
  | (with_reducible refine a_tup ?hz ?_; (case hz => decide); intro _ _ _ _ _) | (with_reducible refine a_lst ?hz ?_; (case hz => decide); intro _ _ _ _ _)
  | (with_reducible refine if_pos' ?_) | (with_reducible refine if_neg' ?_))
local macro_rules | `(tactic| walk_at "w") => `(tactic| repeat (walk_at "w1"))
namespace BkG
open PySem PySem.Spec PyProof.Rows L2
/-! ### defs of the text and what they promise -/
structure Fn (K : PySem.W.Frag) (mg : Str → Option Value) (x : Str) (st : Stmt) (ps : List Str) : Prop where
  ex : ∃ f fd, Fun K x x st f fd ∧ mg x = some (.ref f) ∧ Binds K fd ps [] ∧ KBn K fd ps 0 ps (fun _ ws => ws) (fun _ zs => zs)
theorem fn_mk {K : PySem.W.Frag} {mg : Str → Option Value} {h : Heap} {x : Str} {st : Stmt} {ps : List Str} {f : Addr} {oc : Value} {od an : Option Addr} {osl : Array (Option Value)} {kV doc pm cdv ct : Value} (X : K.In h) (G : h.Ns mainGlobals mg)
    (hb : ∀ (kV doc pm : Value) (an : Option Addr) (cdv ct : Value) (us : List Value), us.length = ps.length → bindArgs (PySem.W.fnOf x x (defArgs st) (defBody st) (defScope st) .none kV doc pm an cdv ct) ⟨us, []⟩ = pure (ps.zip us))
    (hb2 : ∀ (kV doc pm : Value) (an : Option Addr) (cdv ct : Value) (us : List Value), us.length = ps.length → bindArgs (PySem.W.fnOf x x (defArgs st) (defBody st) (defScope st) .none kV doc pm an cdv ct) ⟨[], ps.zip us⟩ = pure (ps.zip us))
    (a : PySem.W.nsIn K mainGlobals x = some (some (.ref f))) (l : K.lookup f = some ⟨oc, od, .func (PySem.W.fnOf x x (defArgs st) (defBody st) (defScope st) .none kV doc pm an cdv ct), osl⟩) (c : PySem.W.codeIn K cdv x = true) (k : PySem.W.keepIn K (.ref f) = true) : Fn K mg x st ps :=
  ⟨f, _, fun_mk l c k, PySem.W.mg_of X G a, (fun_mk (st := st) l c k).binds hb, ⟨fun s us ws _ l1 l2 => (by
    have e : us = [] := List.eq_nil_of_length_eq_zero l1
    subst e
    exact .of_eq (hb2 kV doc pm an cdv ct ws l2)), fun _ r => r⟩⟩
structure Cal (P : Program) (w : World) (K : PySem.W.Frag) (mg : Str → Option Value) (base : Heap) (k : Nat) (x : Str) (sp : Sp) : Prop where
  ex : ∃ f fd ps, FnOk P w K mg base CX0 k f fd ps sp ∧ mg x = some (.ref f) ∧ PySem.W.keepIn K (.ref f) = true ∧ Binds K fd ps []
section
variable {P : Program} {w : World} {K : PySem.W.Frag} {mg : Str → Option Value} {base : Heap}
theorem Fn.cal {x : Str} {st : Stmt} {N ps : List Str} {k : Nat} {sp : Sp} (F : Fn K mg x st ps) (S : FnScope N ps (defScope st)) (len : ∀ vs H Q E, sp vs H Q E → vs.length = ps.length)
    (hbody : ∀ (f : Addr) (cdv : Value) (A : Around) (outer : List Env) (s : Shared) (H : Hp) (vs : List V) (Q : VK) (E : XK), Room k (A.deeper (envOfC x (defScope st) s.heap.objs.size f cdv)) → sp vs H Q E →
      ∃ t, PSs (cxOf CX0 P w K mg base N x (defScope st) f cdv A outer s H E).nox (defBody st) t ∧ t { nx := fun _ H' => Q .non H', rt := Q } (start N vs) H) : Cal P w K mg base (k + 1) x sp := by
  obtain ⟨f, fd, F1, hm, hb, _⟩ := F.ex
  exact ⟨f, fd, ps, F1.ok S len (hbody f), hm, F1.kp, hb⟩
end
theorem Room.le {j k : Nat} {A : Around} (r : Room j A) (h : k ≤ j) : Room k A := r.mono h
theorem pe_c0 {X : Cx} {x : Str} {p pos : Pos} {e : Expr} {es : List Expr} {t : TA} {sp : Sp} {j k : Nat} (c : Cal X.prog X.w X.K X.mg X.base k x sp) (hr : Room j X.A) (hk : k ≤ j) (hg : Gl X x) (ha : PA X (e :: es) t)
    (hdb : (x == ("__debug__" : Str)) = false := by decide) (he : starEach (e :: es) X.env = (false, eval e X.env) :: starEach es X.env := by rfl) (hpl : (backTo pos (starEach es X.env)).any (·.1) = false := by rfl) :
    PE X (.Call (.Name x p) (e :: es) [] pos) (tCall sp [] E0 t) := by
  obtain ⟨f, fd, ps, F, hm, kp, b⟩ := c.ex
  exact pe_call F (hr.mono hk) hg hm kp b .nil pass0 ha hdb he hpl
/-- a module's name as a value -/
theorem pe_gc {X : Cx} {x : Str} {v : V} {pos : Pos} (hg : Gl X x) (h : ∃ u, X.mg x = some u ∧ RelV v u) (hd : (x == ("__debug__" : Str)) = false := by decide) : PE X (.Name x pos) (tC v) := by
  obtain ⟨u, hm, r⟩ := h
  exact pe_glob hg hm r hd
/-- built-in names that the module leaves alone -/
structure Bz (mg : Str → Option Value) : Prop where
  abs : mg "abs" = none
  int : mg "int" = none
  len : mg "len" = none
  range : mg "range" = none
  isinstance : mg "isinstance" = none
  tuple : mg "tuple" = none
  list : mg "list" = none
  bool : mg "bool" = none
  str : mg "str" = none
  zip : mg "zip" = none
  enumerate : mg "enumerate" = none
  sorted : mg "sorted" = none
  min : mg "min" = none
  max : mg "max" = none
  all : mg "all" = none
  any : mg "any" = none
  sum : mg "sum" = none
  dict : mg "dict" = none
/-! ### is True, is False -/
def rIsV : R2 := fun x y H Q => ∃ b : Bool, y = .bl b ∧ Q (.bl (decide (x = .bl b))) H
def rIsNotV : R2 := fun x y H Q => ∃ b : Bool, y = .bl b ∧ Q (.bl (!decide (x = .bl b))) H
theorem relV_bl {x : V} {v : Value} {b : Bool} (r : RelV x v) : (v = Value.bool b) ↔ x = .bl b := by
  cases x with
  | non => cases r; simp
  | bl c => cases r; simp
  | int _ => obtain ⟨t, rfl⟩ := r; simp
  | str _ => obtain ⟨t, rfl⟩ := r; simp
  | byt _ => obtain ⟨t, rfl⟩ := r; simp
  | flt _ => obtain ⟨t, rfl⟩ := r; simp
  | ref _ => cases r; simp
  | ty _ => cases r; simp
theorem plainIs_bool {x : V} {v : Value} {b : Bool} (r : RelV x v) : plainIs v (.bool b) = true := by
  cases x with
  | non => cases r; rfl
  | bl c => cases r; rfl
  | int _ => obtain ⟨t, rfl⟩ := r; rfl
  | str _ => obtain ⟨t, rfl⟩ := r; rfl
  | byt _ => obtain ⟨t, rfl⟩ := r; rfl
  | flt _ => obtain ⟨t, rfl⟩ := r; rfl
  | ref _ => cases r; rfl
  | ty _ => cases r; rfl
theorem op_isV {X : Cx} : OpR X (compareOp .Is) rIsV := by
  intro pins s σ H x y v u Q I rx ry h
  obtain ⟨b, rfl, q⟩ := h
  cases (show u = Value.bool b from ry)
  by_cases e : x = .bl b
  · subst e
    cases (show v = Value.bool b from rx)
    exact wpAny_is_self rfl ⟨.bl true, H, I, rfl, by simpa using q⟩
  · exact wpAny_is_other (plainIs_bool rx) (fun z => e ((relV_bl rx).mp z)) ⟨.bl false, H, I, rfl, by simpa [e] using q⟩
theorem op_isNotV {X : Cx} : OpR X (compareOp .IsNot) rIsNotV := by
  intro pins s σ H x y v u Q I rx ry h
  obtain ⟨b, rfl, q⟩ := h
  cases (show u = Value.bool b from ry)
  by_cases e : x = .bl b
  · subst e
    cases (show v = Value.bool b from rx)
    exact wpAny_isNot_self rfl ⟨.bl false, H, I, rfl, by simpa using q⟩
  · exact wpAny_isNot_other (plainIs_bool rx) (fun z => e ((relV_bl rx).mp z)) ⟨.bl true, H, I, rfl, by simpa [e] using q⟩
section
variable {K : PySem.W.Frag} {H : Hp} {Q : VK} {x y : V}
theorem r_isV {b : Bool} (q : Q (.bl (decide (x = .bl b))) H) : rIsV x (.bl b) H Q := ⟨b, rfl, q⟩
theorem r_isNotV {b : Bool} (q : Q (.bl (!decide (x = .bl b))) H) : rIsNotV x (.bl b) H Q := ⟨b, rfl, q⟩
theorem r_isN (q : Q (.bl (decide (x = .non))) H) : rIsN x .non H Q := ⟨rfl, q⟩
theorem r_notN (q : Q (.bl (!decide (x = .non))) H) : rNotN x .non H Q := ⟨rfl, q⟩
/-- texts, named -/
def rCatS : R2 := fun x y H Q => ∃ i j, x = .str i ∧ y = .str j ∧ i.length + j.length ≤ sizeLine ∧ Q (.str (i ++ j)) H
theorem op_catS {X : Cx} : OpR X (binaryOp .Add) rCatS := op_add_str
theorem r_catS {a b : Str} (h : a.length + b.length ≤ 100000) (q : Q (.str (a ++ b)) H) : rCatS (.str a) (.str b) H Q := ⟨a, b, rfl, rfl, sz_of h, q⟩
theorem r_inS {c : Nat} {z : Str} (q : Q (.bl (decide (c ∈ z.cps.toList))) H) : rInS (.str ⟨#[c]⟩) (.str z) H Q := ⟨c, z, rfl, rfl, q⟩
theorem r_notInS {c : Nat} {z : Str} (q : Q (.bl (!decide (c ∈ z.cps.toList))) H) : rNotInS (.str ⟨#[c]⟩) (.str z) H Q := ⟨c, z, rfl, rfl, q⟩
end
/-! ### shapes of plain data -/
theorem shaped_ints (ns : List Int) : SeqAt.shaped (.list (ns.map PyData.int)) = true := by
  have h1 : ∀ ns : List Int, PyData.canLayAll0 (ns.map PyData.int) = true := by
    intro ns
    induction ns with
    | nil => rfl
    | cons n r ih => rw [List.map_cons]; unfold PyData.canLayAll0; rw [ih]; rfl
  have h2 : ∀ ns : List Int, PyData.depthAll (ns.map PyData.int) = 0 := by
    intro ns
    induction ns with
    | nil => rfl
    | cons n r ih => rw [List.map_cons]; unfold PyData.depthAll; rw [ih]; rfl
  unfold SeqAt.shaped
  rw [show PyData.canLay0 (.list (ns.map PyData.int)) = true by unfold PyData.canLay0; exact h1 ns, show PyData.depth (.list (ns.map PyData.int)) = 1 by unfold PyData.depth; rw [h2]]
  rfl
theorem dp_ints {K : PySem.W.Frag} {H : Hp} {a : Addr} {ns : List Int} (h : SqL K H a (ns.map V.int)) : Dp K H (.ref a) (.list (ns.map PyData.int)) := by
  refine .lst h (dpAll_of (by simp) fun i v d h1 h2 => ?_)
  rw [List.getElem?_map] at h1 h2
  cases e : ns[i]? with
  | none => rw [e] at h1; cases h1
  | some n => rw [e] at h1 h2; cases h1; cases h2; exact .int n
theorem eqv_nil {xs : List PyData} : PyData.eqv (.list xs) (.list []) = xs.isEmpty := by
  cases xs <;> simp [PyData.eqv, PyData.eqvAll]
/-! ### the deal -/
/-- the source of draws at D: its great cells at L, and a number -/
structure DS (H : Hp) (D L : Addr) (st : List Int) (b : Int) : Prop where
  hD : H D = some (.lst [.ref L, .int b])
  hL : H L = some (.lst (st.map V.int))
  len : st.length ≤ 100
  all : ∀ z ∈ st, 0 ≤ z
  b0 : 0 ≤ b
  b1 : b < 2147483647
def Deal (H : Hp) (D L : Addr) : Prop := ∃ st b, DS H D L st b
theorem DS.ne {H : Hp} {D L : Addr} {st : List Int} {b : Int} (h : DS H D L st b) : D ≠ L := by
  intro e
  have h1 := h.hD
  rw [e, h.hL] at h1
  cases st with
  | nil => simp at h1
  | cons z r => simp at h1
theorem DS.keep {H H' : Hp} {D L : Addr} {st : List Int} {b : Int} (h : DS H D L st b) (k : Ex H H') : DS H' D L st b := ⟨k _ _ h.hD, k _ _ h.hL, h.len, h.all, h.b0, h.b1⟩
theorem Deal.keep {H H' : Hp} {D L : Addr} (h : Deal H D L) (k : Ex H H') : Deal H' D L := let ⟨st, b, d⟩ := h; ⟨st, b, d.keep k⟩
/-- the great cells change -/
theorem DS.setL {H H' : Hp} {D L : Addr} {st st' : List Int} {b : Int} (h : DS H D L st b) (k : Kp [L] H H') (hL : H' L = some (.lst (st'.map V.int))) (hl : st'.length ≤ 100) (ha : ∀ z ∈ st', 0 ≤ z) : DS H' D L st' b :=
  ⟨k _ _ h.hD (by simp [h.ne]), hL, hl, ha, h.b0, h.b1⟩
theorem Kp.wider {M M' : List Addr} {H H' : Hp} (k : Kp M H H') (s : ∀ a, a ∈ M → a ∈ M') : Kp M' H H' := fun a o h n => k a o h fun z => n (s a z)
def spAny : Sp := fun vs H Q _ => ∃ (D L : Addr) (n : Int), vs = [.ref D, .int n] ∧ Deal H D L ∧ 0 < n ∧ n.natAbs < 2 ^ 4000 ∧
  ∀ (z : Int) (H' : Hp), 0 ≤ z → z < n → Deal H' D L → Kp [D, L] H H' → Q (.int z) H'
theorem last_int {st : List Int} (h : st ≠ []) : (st.map V.int)[(st.map V.int).length - 1]? = some (.int (st.getLast h)) := by
  rw [List.getElem?_map, List.length_map, ← List.getLast?_eq_getElem?, List.getLast?_eq_some_getLast h]; rfl
theorem atI_last' {st : List Int} (h : st ≠ []) : atI (st.map V.int) (-1) = some (.int (st.getLast h)) := by
  unfold atI ixN
  have hl : 0 < st.length := List.length_pos_iff.mpr h
  rw [if_neg (by omega), if_pos (by rw [List.length_map]; omega)]
  show (st.map V.int)[(-1 + ((st.map V.int).length : Int)).toNat]? = _
  rw [show (-1 + ((st.map V.int).length : Int)).toNat = (st.map V.int).length - 1 by omega]
  exact last_int h
theorem mapdrop {st : List Int} : (st.map V.int).dropLast = st.dropLast.map V.int := by rw [List.dropLast_eq_take, List.dropLast_eq_take, List.map_take, List.length_map]
end BkG
end
section
namespace BkG
open PySem PySem.Spec PyProof.Rows L2
theorem Ex.at {H H' : Hp} {a : Addr} {o : HO} (e : Ex H H') (h : H a = some o) : H' a = some o := e a o h
theorem Kp.at {M : List Addr} {H H' : Hp} {a : Addr} {o : HO} (e : Kp M H H') (h : H a = some o) (n : a ∉ M) : H' a = some o := e a o h n
theorem atI_of {α : Type} {xs : List α} {z : Int} (h0 : 0 ≤ z) (h1 : z < (xs.length : Int)) : ∃ x, atI xs z = some x ∧ xs[z.toNat]? = some x := by
  have hl : z.toNat < xs.length := by omega
  refine ⟨xs[z.toNat], ?_, List.getElem?_eq_getElem hl⟩
  unfold atI ixN
  rw [if_pos h0, if_pos h1]
  exact List.getElem?_eq_getElem hl
theorem atI_nn {α : Type} {xs : List α} {z : Int} {j : Nat} {x : α} (e : z = (j : Int)) (h : xs[j]? = some x) : atI xs z = some x := by rw [e]; exact atI_nat h
/-! ### data: their kinds, their sizes, being the smD -/
def isInt : PyData → Bool
  | .bool _ | .int _ => true
  | _ => false
def isBool : PyData → Bool
  | .bool _ => true
  | _ => false
def isStr : PyData → Bool
  | .str _ => true
  | _ => false
def isTup : PyData → Bool
  | .tuple _ => true
  | _ => false
def isLst : PyData → Bool
  | .list _ => true
  | _ => false
/-- at most n deep, nothing longer than 90000, no dict -/
def okD : Nat → PyData → Bool
  | _, .none | _, .bool _ | _, .int _ | _, .str _ => true
  | n + 1, .list xs | n + 1, .tuple xs => decide (xs.length ≤ 90000) && xs.all (okD n)
  | _, _ => false
theorem okD.mono : ∀ {n m : Nat} {d : PyData}, n ≤ m → okD n d = true → okD m d = true
  | _, _, .none, _, _ => by simp [okD]
  | _, _, .bool _, _, _ => by simp [okD]
  | _, _, .int _, _, _ => by simp [okD]
  | _, _, .str _, _, _ => by simp [okD]
  | 0, _, .list _, _, h => by simp [okD] at h
  | 0, _, .tuple _, _, h => by simp [okD] at h
  | 0, _, .dict _, _, h => by simp [okD] at h
  | _ + 1, _, .dict _, _, h => by simp [okD] at h
  | n + 1, 0, .list _, hl, _ => by omega
  | n + 1, 0, .tuple _, hl, _ => by omega
  | n + 1, m + 1, .list xs, hl, h => by
    simp only [okD, Bool.and_eq_true, List.all_eq_true] at h ⊢
    exact ⟨h.1, fun x hx => okD.mono (by omega) (h.2 x hx)⟩
  | n + 1, m + 1, .tuple xs, hl, h => by
    simp only [okD, Bool.and_eq_true, List.all_eq_true] at h ⊢
    exact ⟨h.1, fun x hx => okD.mono (by omega) (h.2 x hx)⟩
mutual
def smD : PyData → PyData → Bool
  | .none, .none => true
  | .bool a, .bool b => a == b
  | .int a, .int b => a == b
  | .str a, .str b => a == b
  | .list xs, .list ys => smAll xs ys
  | .tuple xs, .tuple ys => smAll xs ys
  | _, _ => false
def smAll : List PyData → List PyData → Bool
  | [], [] => true
  | x :: xs, y :: ys => smD x y && smAll xs ys
  | _, _ => false
end
mutual
theorem smD_refl : ∀ (n : Nat) (d : PyData), okD n d = true → smD d d = true
  | _, .none, _ => by simp [smD]
  | _, .bool a, _ => by simp [smD]
  | _, .int a, _ => by simp [smD]
  | _, .str a, _ => by simp [smD]
  | 0, .list xs, h => by simp [okD] at h
  | 0, .tuple xs, h => by simp [okD] at h
  | n + 1, .list xs, h => by
    simp only [okD, Bool.and_eq_true, List.all_eq_true] at h
    simp only [smD]; exact smAll_refl n xs h.2
  | n + 1, .tuple xs, h => by
    simp only [okD, Bool.and_eq_true, List.all_eq_true] at h
    simp only [smD]; exact smAll_refl n xs h.2
  | 0, .dict xs, h => by simp [okD] at h
  | _ + 1, .dict xs, h => by simp [okD] at h
theorem smAll_refl : ∀ (n : Nat) (ds : List PyData), (∀ d ∈ ds, okD n d = true) → smAll ds ds = true
  | _, [], _ => by simp [smAll]
  | n, d :: ds, h => by simp only [smAll, Bool.and_eq_true]; exact ⟨smD_refl n d (h d List.mem_cons_self), smAll_refl n ds fun x hx => h x (List.mem_cons_of_mem _ hx)⟩
end
theorem smAll_len : ∀ {xs ys : List PyData}, xs.length ≠ ys.length → smAll xs ys = false
  | [], [], h => by simp at h
  | [], _ :: _, _ => by simp [smAll]
  | _ :: _, [], _ => by simp [smAll]
  | x :: xs, y :: ys, h => by simp only [smAll, smAll_len (xs := xs) (ys := ys) (by simpa using h), Bool.and_false]
/-- the pairs that are unlike -/
theorem smAll_iff : ∀ {xs ys : List PyData}, xs.length = ys.length → (smAll xs ys = true ↔ ∀ (i : Nat) (x y : PyData), xs[i]? = some x → ys[i]? = some y → smD x y = true)
  | [], [], _ => by simp [smAll]
  | [], _ :: _, h => by simp at h
  | _ :: _, [], h => by simp at h
  | x :: xs, y :: ys, h => by
    simp only [smAll, Bool.and_eq_true]
    rw [smAll_iff (xs := xs) (ys := ys) (by simpa using h)]
    constructor
    · rintro ⟨h1, h2⟩ i a b ha hb
      cases i with
      | zero => simp at ha hb; subst ha; subst hb; exact h1
      | succ i => exact h2 i a b (by simpa using ha) (by simpa using hb)
    · intro g
      exact ⟨g 0 x y rfl rfl, fun i a b ha hb => g (i + 1) a b (by simpa using ha) (by simpa using hb)⟩
/-! ### isinstance of data -/
def tyN : PyData → String
  | .none => "NoneType"
  | .bool _ => "bool"
  | .int _ => "int"
  | .str _ => "str"
  | .list _ => "list"
  | .tuple _ => "tuple"
  | .dict _ => "dict"
section
variable {K : PySem.W.Frag} {M : List Addr} {H : Hp} {Q : VK} {v : V} {d : PyData}
theorem Dv.ty (h : Dv M H v d) : TyX K H v (.type (tyN d)) := by
  cases h with
  | non => exact .base .non
  | bl b => exact .base (.bl b)
  | int i => exact .base (.int i)
  | str x => exact .base (.str x)
  | lst h n l t => exact .base (.lst h)
  | tup h l t => exact .base (.tup h)
theorem Dv.nodict (h : Dv M H v d) : ∀ kvs, d ≠ .dict kvs := by cases h <;> simp
theorem r_isiInt (h : Dv M H v d) (q : Q (.bl (isInt d)) H) : rIsi K [v, .ty "int"] H Q := by
  refine ⟨v, _, _, _, isInt d, rfl, .ty _, h.ty, kit_ty ?_, q⟩
  have := h.nodict
  cases d <;> first | exact absurd rfl (this _) | (simp only [tyN, isInt, isBool, isStr, isTup, isLst]; decide +kernel)
theorem r_isiBool (h : Dv M H v d) (q : Q (.bl (isBool d)) H) : rIsi K [v, .ty "bool"] H Q := by
  refine ⟨v, _, _, _, isBool d, rfl, .ty _, h.ty, kit_ty ?_, q⟩
  have := h.nodict
  cases d <;> first | exact absurd rfl (this _) | (simp only [tyN, isInt, isBool, isStr, isTup, isLst]; decide +kernel)
theorem r_isiStr (h : Dv M H v d) (q : Q (.bl (isStr d)) H) : rIsi K [v, .ty "str"] H Q := by
  refine ⟨v, _, _, _, isStr d, rfl, .ty _, h.ty, kit_ty ?_, q⟩
  have := h.nodict
  cases d <;> first | exact absurd rfl (this _) | (simp only [tyN, isInt, isBool, isStr, isTup, isLst]; decide +kernel)
theorem r_isiTup (h : Dv M H v d) (q : Q (.bl (isTup d)) H) : rIsi K [v, .ty "tuple"] H Q := by
  refine ⟨v, _, _, _, isTup d, rfl, .ty _, h.ty, kit_ty ?_, q⟩
  have := h.nodict
  cases d <;> first | exact absurd rfl (this _) | (simp only [tyN, isInt, isBool, isStr, isTup, isLst]; decide +kernel)
theorem r_isiLst (h : Dv M H v d) (q : Q (.bl (isLst d)) H) : rIsi K [v, .ty "list"] H Q := by
  refine ⟨v, _, _, _, isLst d, rfl, .ty _, h.ty, kit_ty ?_, q⟩
  have := h.nodict
  cases d <;> first | exact absurd rfl (this _) | (simp only [tyN, isInt, isBool, isStr, isTup, isLst]; decide +kernel)
theorem r_isiTL {p : Addr} (hp : H p = some (.tup [.ty "tuple", .ty "list"])) (h : Dv M H v d) (q : Q (.bl (isTup d || isLst d)) H) : rIsiT K [v, .ref p] H Q := by
  have n := h.nodict
  have h1 : PySem.W.kitOne K (.type (tyN d)) (.type "tuple") = some (isTup d) := kit_ty (by cases d <;> first | exact absurd rfl (n _) | (simp only [tyN, isTup, isLst]; decide +kernel))
  have h2 : PySem.W.kitOne K (.type (tyN d)) (.type "list") = some (isLst d) := kit_ty (by cases d <;> first | exact absurd rfl (n _) | (simp only [tyN, isTup, isLst]; decide +kernel))
  refine ⟨v, p, _, _, [.type "tuple", .type "list"], _, rfl, hp, .cons (.ty _) (.cons (.ty _) .nil), h.ty, kitAny_cons (r := isTup d || isLst d) h1 (fun e => ?_) (fun e => by rw [e]; rfl), q⟩
  rw [e, Bool.false_or]
  exact kitAny_cons h2 (fun e => by rw [e]; exact kitAny_nil) fun e => e
end
/-! ### comprehensions over zip -/
section
variable {K : PySem.W.Frag} {σ : L2.St} {H : Hp} {v : V} {tt : TT} {te : TE} {g : TG} {vs : List Nat} {Q : VK}
theorem lcZL {a b : Addr} {xs ys : List V} (hz : xs.length = ys.length) (P : Nat → List V → Addr → Hp → Prop) (h0 : ∀ D H2, H D = none → Ex H H2 → H2 D = some (.lst []) → P 0 [] D H2) (hl : ∀ i acc D H', i ≤ xs.length → P i acc D H' → SqL K H' a xs ∧ SqL K H' b ys)
    (hs : ∀ i x y acc D H' T H2, xs[i]? = some x → ys[i]? = some y → acc.length ≤ i → H D = none → H2 D = some (.lst acc) → P i acc D H' → Ex H' H2 → H2 T = some (.tup [x, y]) → g (.ref T) (wipe σ vs) H2 (kTurn tt te vs P D i σ))
    (hd : ∀ acc D H', acc.length ≤ xs.length → H D = none → H' D = some (.lst acc) → P xs.length acc D H' → Q (.ref D) H') : LcW (Itz K a b) g tt te vs σ Q H := by
  intro D hD
  refine ⟨fun i m H' => m = xs.length - i ∧ i ≤ xs.length ∧ Pc P D i H', ⟨xs.length, by simp, Nat.zero_le _, [], Nat.le_refl _, upd_same, h0 D _ hD (Ex.new hD) upd_same⟩, ?_⟩
  rintro i m H' ⟨rfl, hi, acc, h1, h2, p⟩
  obtain ⟨q1, q2⟩ := hl i acc D H' hi p
  by_cases hlt : i < xs.length
  · have hx : xs[i]? = some xs[i] := List.getElem?_eq_getElem hlt
    have hlt2 : i < ys.length := by omega
    have hy : ys[i]? = some ys[i] := List.getElem?_eq_getElem hlt2
    refine .inr ⟨⟨xs, ys, _, _, q1, q2, hx, hy⟩, Pc P D (i + 1), fun H'' p' => ⟨xs.length - (i + 1), by omega, rfl, hlt, p'⟩, fun w H'' y => ?_⟩
    obtain ⟨T, x', y', rfl, hT, rfl, f1, f2⟩ := y
    exact hs i x' y' acc D H' T _ (f1 xs q1) (f2 ys q2) h1 hD (Ex.at (Ex.new hT) h2) p (Ex.new hT) upd_same
  · have e : i = xs.length := by omega
    subst e
    exact .inl ⟨⟨xs, ys, q1, q2, Or.inl (Nat.le_refl _)⟩, hd acc D H' h1 hD h2 p⟩
theorem lcZT {a b : Addr} {xs ys : List V} (hz : xs.length = ys.length) (P : Nat → List V → Addr → Hp → Prop) (h0 : ∀ D H2, H D = none → Ex H H2 → H2 D = some (.lst []) → P 0 [] D H2) (hl : ∀ i acc D H', i ≤ xs.length → P i acc D H' → SqT K H' a xs ∧ SqT K H' b ys)
    (hs : ∀ i x y acc D H' T H2, xs[i]? = some x → ys[i]? = some y → acc.length ≤ i → H D = none → H2 D = some (.lst acc) → P i acc D H' → Ex H' H2 → H2 T = some (.tup [x, y]) → g (.ref T) (wipe σ vs) H2 (kTurn tt te vs P D i σ))
    (hd : ∀ acc D H', acc.length ≤ xs.length → H D = none → H' D = some (.lst acc) → P xs.length acc D H' → Q (.ref D) H') : LcW (RZ.ItzT K a b) g tt te vs σ Q H := by
  intro D hD
  refine ⟨fun i m H' => m = xs.length - i ∧ i ≤ xs.length ∧ Pc P D i H', ⟨xs.length, by simp, Nat.zero_le _, [], Nat.le_refl _, upd_same, h0 D _ hD (Ex.new hD) upd_same⟩, ?_⟩
  rintro i m H' ⟨rfl, hi, acc, h1, h2, p⟩
  obtain ⟨q1, q2⟩ := hl i acc D H' hi p
  by_cases hlt : i < xs.length
  · have hx : xs[i]? = some xs[i] := List.getElem?_eq_getElem hlt
    have hlt2 : i < ys.length := by omega
    have hy : ys[i]? = some ys[i] := List.getElem?_eq_getElem hlt2
    refine .inr ⟨⟨xs, ys, _, _, q1, q2, hx, hy⟩, Pc P D (i + 1), fun H'' p' => ⟨xs.length - (i + 1), by omega, rfl, hlt, p'⟩, fun w H'' y => ?_⟩
    obtain ⟨T, x', y', rfl, hT, rfl, f1, f2⟩ := y
    exact hs i x' y' acc D H' T _ (f1 xs q1) (f2 ys q2) h1 hD (Ex.at (Ex.new hT) h2) p (Ex.new hT) upd_same
  · have e : i = xs.length := by omega
    subst e
    exact .inl ⟨⟨xs, ys, q1, q2, Or.inl (Nat.le_refl _)⟩, hd acc D H' h1 hD h2 p⟩
def aLcZ (K : PySem.W.Frag) (g : TG) (tt : TT) (te : TE) (vs : List Nat) (σ : L2.St) (Q : VK) : List V → Hp → Prop := fun us H1 => ∃ a b xs ys, us = [.ref a, .ref b] ∧ ((SqL K H1 a xs ∧ SqL K H1 b ys ∧ LcW (Itz K a b) g tt te vs σ Q H1) ∨ (SqT K H1 a xs ∧ SqT K H1 b ys ∧ LcW (RZ.ItzT K a b) g tt te vs σ Q H1))
theorem w_lcZ {a : TA} (h : a σ H (aLcZ K g tt te vs σ Q)) : tLc (RZ.iZipA K a) g tt te vs σ H Q := h
end
theorem small4000 {z : Int} (h : z.natAbs < 2 ^ 64) : z.natAbs < 2 ^ 4000 := Nat.lt_of_lt_of_le h (Nat.pow_le_pow_right (by decide) (by decide))
theorem cut_to {xs : List V} {k : Nat} : cutV xs none (some (k : Int)) = xs.take k := by
  unfold cutV
  rw [HT.sIx_none, HT.sIx_nat, List.drop_zero, Nat.sub_zero, Nat.min_def]
  split
  · rfl
  · rw [List.take_of_length_le (Nat.le_refl _), List.take_of_length_le (by omega)]
theorem take_more {α : Type} {l : List α} {i : Nat} {x : α} (h : l[i]? = some x) : l.take (i + 1) = l.take i ++ [x] := by
  rw [List.take_add_one, h]; rfl
theorem map_some {α β : Type} {f : α → β} {l : List α} {i : Nat} {y : β} (h : (l.map f)[i]? = some y) : ∃ x, l[i]? = some x ∧ y = f x := by
  rw [List.getElem?_map] at h
  cases e : l[i]? with
  | none => rw [e] at h; cases h
  | some x => rw [e] at h; exact ⟨x, rfl, (Option.some.inj h).symm⟩
/-! ### what the law's helpers promise -/
def spDraw (K : PySem.W.Frag) : Sp := fun vs H Q _ => ∃ (a : Addr) (ns : List Int) (salt : Int), vs = [.ref a, .int salt] ∧ SqL K H a (ns.map V.int) ∧ ns.length ≤ 63 ∧ 0 ≤ salt ∧ salt ≤ 1000 ∧
  ∀ (D L : Addr) (H' : Hp), Ex H H' → Deal H' D L → Q (.ref D) H'

def spOf : Sp := fun vs H Q _ => ∃ (D L p : Addr) (xs : List V), vs = [.ref D, .ref p] ∧ Deal H D L ∧ H p = some (.lst xs) ∧ p ≠ D ∧ p ≠ L ∧ 0 < xs.length ∧ xs.length ≤ 90000 ∧
  ∀ (i : Nat) (x : V) (H' : Hp), xs[i]? = some x → Deal H' D L → Kp [D, L] H H' → Q x H'
def spSame : Nat → Sp
  | 0 => fun _ _ _ _ => False
  | n + 1 => fun vs H Q _ => ∃ (M : List Addr) (v u : V) (d e : PyData), vs = [v, u] ∧ Dv M H v d ∧ Dv M H u e ∧ okD n d = true ∧ ∀ H', Ex H H' → Q (.bl (smD d e)) H'
theorem same_seq {d e : PyData} (h1 : (isTup d || isLst d) = true) (h2 : (isTup e || isLst e) = true) (h3 : isTup e = isTup d) : (∃ xs ys, d = .tuple xs ∧ e = .tuple ys) ∨ ∃ xs ys, d = .list xs ∧ e = .list ys := by
  cases d <;> cases e <;> simp [isTup, isLst] at h1 h2 h3 ⊢
theorem same_no {d e : PyData} (h2 : (isTup e || isLst e) = true) (h3 : isTup e ≠ isTup d ∨ (isTup d || isLst d) = false) : smD d e = false := by
  cases d <;> cases e <;> simp [isTup, isLst, smD] at h2 h3 ⊢
theorem if_dt {b : Bool} {A B : Prop} (e : b = true) (h : A) : if b = true then A else B := by rw [e]; exact if_pos' h
theorem if_df {b : Bool} {A B : Prop} (e : b = false) (h : B) : if b = true then A else B := by rw [e]; exact if_neg' h
theorem Dv.tup_inv {M : List Addr} {H : Hp} {v : V} {ds : List PyData} (h : Dv M H v (.tuple ds)) : ∃ a xs, v = .ref a ∧ H a = some (.tup xs) ∧ xs.length = ds.length ∧ ∀ (i : Nat) (x : V) (d : PyData), xs[i]? = some x → ds[i]? = some d → Dv M H x d := by
  cases h with
  | tup h l t => exact ⟨_, _, rfl, h, l, t⟩
theorem Dv.lst_inv {M : List Addr} {H : Hp} {v : V} {ds : List PyData} (h : Dv M H v (.list ds)) : ∃ a xs, v = .ref a ∧ H a = some (.lst xs) ∧ a ∉ M ∧ xs.length = ds.length ∧ ∀ (i : Nat) (x : V) (d : PyData), xs[i]? = some x → ds[i]? = some d → Dv M H x d := by
  cases h with
  | lst h n l t => exact ⟨_, _, rfl, h, n, l, t⟩
theorem get_of_len {α β : Type} {xs : List α} {ys : List β} {i : Nat} {x : α} (l : xs.length = ys.length) (h : xs[i]? = some x) : ∃ y, ys[i]? = some y := by
  have := (List.getElem?_eq_some_iff.mp h).1
  exact ⟨ys[i]'(by omega), List.getElem?_eq_getElem _⟩
end BkG
end
section
namespace PySem
namespace BkEnum
open Sem (wp)
open AutoSeq1 (wpAny_loadPart')
theorem meets_newT (l : Addr) (items : Array Value) (n : Nat) (dct : Option Addr) (sl : Array (Option Value)) :
    Meets (Builtin.«enumerate.__new__» ⟨[.type "enumerate", .ref l], []⟩) (fun _ R s => s.heap.get? l = some { cls := .type "tuple", dict := dct, data := .seq items n, slots := sl } ∧
      R (.ok (.ret (.ref (s.heap.push { cls := .type "tuple_iterator", data := .fields #[.ref l, .int 0 0] }).objs.size)))
        { s with heap := (s.heap.push { cls := .type "tuple_iterator", data := .fields #[.ref l, .int 0 0] }).push { cls := .type "enumerate", data := .fields #[.none, .bool false, .ref s.heap.objs.size, rawInt 0, .none, .none] } }) :=
  .of_wp fun prog w A R s h => by
    obtain ⟨hp, g, d, tk, os⟩ := s; obtain ⟨hl, h⟩ := h
    have hsub := sub_enumerate
    have hL : Heap.IsTuple (Shared.heap ⟨hp, g, d, tk, os⟩) l items := ⟨_, hl, rfl, n, rfl⟩
    wp_walk using wpAny_loadPart' hl
    refine wpAny_stack_any fun st => wpAny_pure ?_
    split
    · rename_i c _ _ _ _ _
      cases (c == Value.type "enumerate")
      · wp_walk using wpAny_loadPart' hl, wpAny_pyIter_tuple hL
        exact ⟨_, rfl, h⟩
      · wp_walk using wpAny_loadPart' hl, wpAny_pyIter_tuple hL
        exact ⟨_, rfl, h⟩
    · wp_walk using wpAny_loadPart' hl, wpAny_pyIter_tuple hL
      exact ⟨_, rfl, h⟩
theorem call_tuple {prog : Program} {w : World} {A : Around} {E : Value → Shared → Prop} {s : Shared} {l : Addr} {items : Array Value} {Q : Value → Shared → Prop} (hL : s.heap.IsTuple l items)
    (h : ∀ h', IsEnum h' (s.heap.objs.size + 1) s.heap.objs.size 0 .none → h'.IsTupleIter s.heap.objs.size l 0 → h'.objs.size = s.heap.objs.size + 2 →
      (∀ b o, s.heap.get? b = some o → h'.get? b = some o) → Q (.ref (s.heap.objs.size + 1)) { s with heap := h' }) :
    wpAny (model prog w) A (call (.type "enumerate") [.ref l]) Q E s := by
  obtain ⟨⟨c, dct, dt, sl⟩, hl, hc, n, hd⟩ := hL
  replace hc : c = .type "tuple" := hc
  replace hd : dt = .seq items n := hd
  subst hc hd
  refine callType_new F.called_enumerate (by decide) (F.typeCall_enumerate_1 _) (F.newCall_enumerate_1 _) (fun obj => F.args_object_init_2 obj _) F.entry_enumerate_new
    (meets_newT l items n dct sl) ⟨hl, ?_⟩
  have hz : (s.heap.push { cls := .type "tuple_iterator", data := .fields #[.ref l, .int 0 0] }).objs.size = s.heap.objs.size + 1 := Heap.size_push ..
  show _ ∧ _
  rw [hz]
  have he : IsEnum ((s.heap.push { cls := .type "tuple_iterator", data := .fields #[.ref l, .int 0 0] }).push
      { cls := .type "enumerate", data := .fields #[.none, .bool false, .ref s.heap.objs.size, rawInt 0, .none, .none] }) (s.heap.objs.size + 1) s.heap.objs.size 0 .none := by
    have := Heap.get?_push_size (s.heap.push { cls := .type "tuple_iterator", data := .fields #[.ref l, .int 0 0] })
      (o := { cls := .type "enumerate", data := .fields #[.none, .bool false, .ref s.heap.objs.size, rawInt 0, .none, .none] }) rfl
    rw [hz] at this; exact this
  refine ⟨⟨_, he, rfl⟩, h _ he ⟨_, Heap.get?_push_of_some _ (Heap.get?_push_size _ rfl), rfl, rfl⟩ (by rw [Heap.size_push, hz]) fun b o x => Heap.get?_push_of_some _ (Heap.get?_push_of_some _ x)⟩
end BkEnum
end PySem
namespace BkG
open PySem PySem.Spec PyProof.Rows L2
/-- the tuple at a as it stands at each turn, the items behind their numbers -/
def IteT (K : PySem.W.Frag) (a : Addr) : It :=
  ⟨fun i H => ∃ (xs : List V) (x : V), SqT K H a xs ∧ xs[i]? = some x,
    fun i H v H' => ∃ T x, v = .ref T ∧ H T = none ∧ H' = upd H T (.tup [.int (i : Nat), x]) ∧ (∀ xs, SqT K H a xs → xs[i]? = some x),
    fun i H => ∃ xs : List V, SqT K H a xs ∧ xs.length ≤ i⟩
theorem turn_enumT {P : Program} {w : World} {K : PySem.W.Frag} {elts : List Expr} {kk : Nat} {tpos : Pos} (a e it : Addr) :
    Turn P w K (.Tuple elts kk tpos) (IteT K a) [e, it] e (fun i h => (∃ old, IsEnum h e it ((i : Nat) : Int) old) ∧ h.IsTupleIter it a i ∧ e ≠ it ∧ a ≠ it ∧ a ≠ e) where
  mem := by simp
  obj := fun i h st b hb => by
    obtain ⟨⟨old, he⟩, ⟨o, ho, hc, hd⟩, _⟩ := st
    have e' : b = e ∨ b = it := by simpa using hb
    rcases e' with z | z
    · rw [z]; exact ⟨_, he, fun v q => nomatch q⟩
    · rw [z]; exact ⟨o, ho, fun v q => by rw [hd] at q; cases q⟩
  keep := fun i h h' st k => let ⟨⟨old, he⟩, hi, hne⟩ := st; ⟨⟨old, k e (by simp) _ he⟩, hi.at fun o q => k it (by simp) o q, hne⟩
  item := by
    intro X hP hw hK hc i pins s σ H E I hf st hg
    subst hP hw hK
    obtain ⟨⟨old, he⟩, hit, hne, hai, hae⟩ := st
    obtain ⟨xs, x, hq, hx⟩ := hg
    obtain ⟨its, rv, p, hz⟩ := I.tuple hq
    obtain ⟨u, hu, ru⟩ := rv.get hx
    have hel : e < s.heap.objs.size := Heap.lt_size he
    have hil : it < s.heap.objs.size := by obtain ⟨_, q, _⟩ := hit; exact Heap.lt_size q
    have hlt : i < its.toArray.size := by
      have h := (List.getElem?_eq_some_iff.mp hu).1
      simpa using h
    refine wpAny_pyNext_enum_itemD (Draws.tuple (show X.A.in1.handled = none from I.ok.hd hc) it a hai its.toArray) he ⟨hit, p⟩ hlt hne (by simp [hne, Ne.symm hae]) fun y h' tk hy ho st' hT hsz hk => ?_
    have ey : y = u := by
      have h1 : its.toArray[i]? = some y := hy
      have h2 : its.toArray[i]? = some u := by simpa using hu
      rw [h2] at h1; exact (Option.some.inj h1).symm
    subst ey
    refine ⟨_, rfl, wpAny_letOwnedTupleGo_enum (s := { s with heap := h', toks := tk + 1 }) ho fun h'' he' sb => ?_⟩
    have hT2 : h''.get? s.heap.objs.size = some { cls := .type "tuple", data := .seq #[.int i tk, y] } := (sb.2 _ (Nat.ne_of_gt hel)).trans hT
    have new : ObjOk X.prog X.w (upd H s.heap.objs.size (.tup [.int (i : Nat), x])) h'' s.heap.objs.size (.tup [.int (i : Nat), x]) :=
      ⟨by show 2 ≤ sizeLine; decide, [.int i tk, y], .cons ⟨_, rfl⟩ (.cons ru .nil), ⟨_, hT2, rfl, _, rfl⟩⟩
    have I1 : Inv X pins σ (upd H s.heap.objs.size (.tup [.int (i : Nat), x])) { s with heap := h'', toks := tk + 1 } :=
      I.turnedNew (ch := [e, it]) (fun b ob hb q => (sb.2 b (fun z => hb (by simp [z]))).trans (hk b ob (fun z => hb (by simp [z])) (fun z => hb (by simp [z])) q)) hf (Nat.le_refl _) new
    refine ⟨.ref s.heap.objs.size, _, I1, rfl, ⟨_, x, rfl, I.hok.fresh (Nat.le_refl _), rfl, fun ys hy => by rw [I.tuple_inj hy hq]; exact hx⟩, ⟨⟨y, ?_⟩, st'.1.at fun o q => (sb.2 it (Ne.symm hne)).trans q, hne, hai, hae⟩, fun b hb => ?_⟩
    · have e1 : ((i + 1 : Nat) : Int) = (i : Int) + 1 := by omega
      rw [e1]; exact he'
    · have hb' : b < s.heap.objs.size := by
        have e' : b = e ∨ b = it := by simpa using hb
        rcases e' with z | z
        · rw [z]; exact hel
        · rw [z]; exact hil
      rw [upd_ne (Nat.ne_of_lt hb')]
      exact (hf b hb).1
  done := by
    intro X hP hw hK hc i pins s σ H E I hf st hg
    subst hP hw hK
    obtain ⟨⟨old, he⟩, hit, hne, hai, hae⟩ := st
    obtain ⟨xs, hq, hx⟩ := hg
    obtain ⟨its, rv, p, hz⟩ := I.tuple hq
    obtain ⟨f0, f1, f2, f3, f4, f5⟩ := hf it (by simp)
    have hl := rv.length
    have hh : X.A.in1.handled = none := I.ok.hd hc
    unfold pyNext
    have hT : s.TypeIs (.ref e) "enumerate" := ⟨_, he, rfl⟩
    refine wpAny_bind (wpAny_attempt (wpAny_callSpecial?_slot (name := Str.ofString "__next__") hT F.slot_enumerate_next
      (wpAny_call_entry F.slot_enumerate_next hT F.entry_enumerate_next ?_ (F.args_enumerate_next_1 _))))
    show wpAny _ _ (field (.ref e) 2 >>= _) _ _ _
    refine wpAny_bind (wpAny_field he rfl (x := .ref it) rfl ?_)
    refine wpAny_bind (wpAny_nextOf_tuple_end hh hit (show s.heap.IsTuple a its.toArray from p) (by simp; omega) fun h' x he' hx' => ?_)
    obtain ⟨o, ho, hc'⟩ := hx'
    refine wpAny_bind (wpAny_isInstance (T := "StopIteration") (b := true) ⟨o, ho, hc'⟩ isSubtype_stop ?_)
    exact wpAny_pure ⟨rfl, I.turned (t' := s.toks) (fun b o hb q => he' b o hb q) f0 f1 f3 f4 f5⟩
  self := fun A i s Q E st h => let ⟨⟨_, he⟩, _⟩ := st; wpAny_pyIter_enum he h
def iEnumT (K : PySem.W.Frag) (ta : TA) : TI := fun σ H R => ta σ H fun vs H1 => ∃ a xs, vs = [.ref a] ∧ SqT K H1 a xs ∧ R (IteT K a) H1
theorem pi_enumT {X : Cx} {e : Expr} {ta : TA} {p pos tpos : Pos} {elts : List Expr} {kk : Nat} (hg : Gl X "enumerate") (hm : X.mg "enumerate" = none) (ha : PA X [e] ta) (hs : starEach [e] X.env = [(false, eval e X.env)] := by rfl) :
    PI X (.Tuple elts kk tpos) (.Call (.Name "enumerate" p) [e] [] pos) (iEnumT X.K ta) := by
  refine ⟨fun pins s σ H R I h => ?_⟩
  refine Call_ (ld_blt I hg hm boot_enumerate (PyProof.Rows.callWith_type1 (thn (ha.run pos pins s σ H _ I h) fun us s1 ⟨vs, H1, I1, r1, q1⟩ => ?_) hs rfl))
  obtain ⟨a, xs, ex, hq, q⟩ := q1
  subst ex
  cases r1 with
  | cons r rr =>
    cases rr
    cases r
    obtain ⟨its, rv, p', hz⟩ := I1.tuple hq
    refine PySem.BkEnum.call_tuple (show s1.heap.IsTuple a its.toArray from p') fun h' he hit hsz hk => wpAny_pyIter_enum he ?_
    have I2 : Inv X pins σ H1 { s1 with heap := h' } := I1.kept (t' := s1.toks) hk
    have hal : a < s1.heap.objs.size := p'.lt
    refine ⟨s1.heap.objs.size + 1, [s1.heap.objs.size + 1, s1.heap.objs.size], _, _, H1, rfl, I2, turn_enumT a (s1.heap.objs.size + 1) s1.heap.objs.size, ⟨⟨.none, he⟩, hit, Nat.succ_ne_self _, Nat.ne_of_lt hal, Nat.ne_of_lt (Nat.lt_succ_of_lt hal)⟩, fun b hb => ?_, q⟩
    have e' : b = s1.heap.objs.size + 1 ∨ b = s1.heap.objs.size := by simpa using hb
    have hle : s1.heap.objs.size ≤ b := by
      rcases e' with z | z
      · rw [z]; exact Nat.le_add_right _ _
      · rw [z]; exact Nat.le_refl _
    exact I1.fpOk hle (I1.hok.fresh hle)
section
variable {K : PySem.W.Frag} {σ : L2.St} {H : Hp} {t : TS} {f bk ct : L2.St → Hp → Prop} {rt : VK} {g : TG}
/-- enumerate(a tuple) -/
def aEnumT (K : PySem.W.Frag) (g : TG) (tb : TS) (D : Ends) (σ : L2.St) : List V → Hp → Prop := fun vs H1 => ∃ a xs, vs = [.ref a] ∧ SqT K H1 a xs ∧ ∃ W : Nat → Nat → L2.St → Hp → Prop, (∃ m, W 0 m σ H1) ∧ ∀ i m σ H, W i m σ H →
  ((IteT K a).stop i H ∧ D.nx σ H) ∨ ((IteT K a).go i H ∧ ∃ N : L2.St → Hp → Prop, (∀ σ' H', N σ' H' → ∃ m', m' < m ∧ W (i + 1) m' σ' H') ∧ ∀ x H', (IteT K a).yld i H x H' → g x σ H' fun σ2 H2 => tb { D with nx := N, ct := N, bk := D.nx } σ2 H2)
theorem w_forET {a : TA} (h : a σ H (aEnumT K g t ⟨f, rt, bk, ct⟩ σ)) : tFor (iEnumT K a) g t ⟨f, rt, bk, ct⟩ σ H := h
theorem a_enumT {a : Addr} {xs : List V} (h : SqT K H a xs) (Pv : Nat → L2.St → Hp → Prop) (h0 : Pv 0 σ H) (hl : ∀ i σ' H', i ≤ xs.length → Pv i σ' H' → SqT K H' a xs)
    (hs : ∀ i x σ' H' T H2, xs[i]? = some x → Pv i σ' H' → H' T = none → Ex H' H2 → H2 T = some (.tup [.int (i : Int), x]) → g (.ref T) σ' H2 fun σ2 H2 => t ⟨Pv (i + 1), rt, f, Pv (i + 1)⟩ σ2 H2) (hd : ∀ σ' H', Pv xs.length σ' H' → f σ' H') :
    aEnumT K g t ⟨f, rt, bk, ct⟩ σ [.ref a] H := by
  refine ⟨a, xs, rfl, h, fun i m σ H => m = xs.length - i ∧ i ≤ xs.length ∧ Pv i σ H, ⟨xs.length, by simp, Nat.zero_le _, h0⟩, ?_⟩
  rintro i m σ H ⟨rfl, hi, p⟩
  have q := hl i σ H hi p
  by_cases hlt : i < xs.length
  · have hx : xs[i]? = some xs[i] := List.getElem?_eq_getElem hlt
    refine .inr ⟨⟨xs, _, q, hx⟩, Pv (i + 1), fun σ' H' p' => ⟨xs.length - (i + 1), by omega, rfl, hlt, p'⟩, fun v H' y => ?_⟩
    obtain ⟨T, x', rfl, hT, rfl, f1⟩ := y
    exact hs i x' σ H T _ (f1 xs q) p hT (Ex.new hT) upd_same
  · have e : i = xs.length := by omega
    subst e
    exact .inl ⟨⟨xs, q, Nat.le_refl _⟩, hd σ H p⟩
end
end BkG
end
section
namespace BkG
open PySem PySem.Spec L2
/-! ### words: what the program's words do, as numbers -/
def isIntg : PyData → Bool
  | .int _ => true
  | _ => false
def isWid : PyData → Bool
  | .int n => decide (1 ≤ n ∧ n ≤ 64)
  | _ => false
def isWord (w : Nat) : PyData → Bool
  | .int n => decide (0 ≤ n ∧ n < 2 ^ w)
  | _ => false
def Wd (w : Nat) (a : Int) : Prop := 0 ≤ a ∧ a < 2 ^ w
theorem pow_pos' (w : Nat) : (0 : Int) < 2 ^ w := by
  have h : (0 : Int) < ((2 ^ w : Nat) : Int) := by exact_mod_cast Nat.pow_pos (by decide)
  simpa using h
theorem pow_cast (w : Nat) : ((2 ^ w : Nat) : Int) = (2 : Int) ^ w := by simp
theorem Wd.mod (w : Nat) (a : Int) : Wd w (a % 2 ^ w) := ⟨Int.emod_nonneg _ (Int.ne_of_gt (pow_pos' w)), Int.emod_lt_of_pos _ (pow_pos' w)⟩
theorem Wd.small {w : Nat} {a : Int} (h : Wd w a) (hw : w ≤ 64) : a.natAbs < 2 ^ 64 := by
  have h1 : (2 : Int) ^ w ≤ 2 ^ 64 := by
    rw [← pow_cast, ← pow_cast]
    exact_mod_cast Nat.pow_le_pow_right (by decide) hw
  have := h.1
  have := h.2
  have e : (2 : Int) ^ 64 = ((2 ^ 64 : Nat) : Int) := by simp
  omega
theorem shl_ok {w : Nat} (hw : w ≤ 64) : CPow 1 (w : Int) := ⟨by omega, by omega, by decide⟩
/-- the word that undoes -/
def backOf (w : Nat) (n : Int) : Nat → Int
  | 0 => 1
  | k + 1 => (backOf w n k) * (2 - n * (backOf w n k)) % 2 ^ w
theorem backOf_wd {w : Nat} {n : Int} (hw : 1 ≤ w) : ∀ k, Wd w (backOf w n k)
  | 0 => by
    refine ⟨(by decide : (0 : Int) ≤ 1), ?_⟩
    show (1 : Int) < 2 ^ w
    have h : (2 : Int) ^ 1 ≤ 2 ^ w := by
      rw [← pow_cast, ← pow_cast]
      exact_mod_cast Nat.pow_le_pow_right (by decide) hw
    have e : (2 : Int) ^ 1 = 2 := by decide
    omega
  | k + 1 => Wd.mod w _
/-- after k turns it undoes n as far as k + 1 bits -/
theorem backOf_ok {w : Nat} {n : Int} (hn : n % 2 ≠ 0) : ∀ k, k + 1 ≤ w → ((2 : Int) ^ (k + 1)) ∣ (backOf w n k) * n - 1
  | 0, _ => by
    show (2 : Int) ^ 1 ∣ 1 * n - 1
    have e : (2 : Int) ^ 1 = 2 := by decide
    rw [e]; omega
  | k + 1, hk => by
    obtain ⟨c, hc⟩ := backOf_ok (w := w) hn k (by omega)
    have hm : backOf w n (k + 1) = (backOf w n k) * (2 - n * (backOf w n k)) % 2 ^ w := rfl
    obtain ⟨q, hq⟩ : ∃ q, backOf w n (k + 1) = (backOf w n k) * (2 - n * (backOf w n k)) - 2 ^ w * q := ⟨((backOf w n k) * (2 - n * (backOf w n k))) / 2 ^ w, by rw [hm, Int.emod_def]⟩
    rw [hq]
    generalize backOf w n k = f at *
    have e1 : (f * (2 - n * f) - 2 ^ w * q) * n - 1 = -((f * n - 1) * (f * n - 1)) - 2 ^ w * (q * n) := by
      rw [Int.sub_mul, Int.mul_sub, Int.sub_mul, Int.sub_mul, Int.mul_sub, Int.mul_sub]
      have a1 : f * 2 * n = 2 * (f * n) := by rw [Int.mul_comm f 2, Int.mul_assoc]
      have a2 : f * (n * f) * n = f * n * (f * n) := by rw [Int.mul_assoc f (n * f) n, Int.mul_assoc n f n, ← Int.mul_assoc f n (f * n)]
      have a3 : 2 ^ w * q * n = 2 ^ w * (q * n) := Int.mul_assoc _ _ _
      rw [a1, a2, a3]
      omega
    rw [e1, hc]
    have d1 : ((2 : Int) ^ (k + 1 + 1)) ∣ 2 ^ (k + 1) * c * (2 ^ (k + 1) * c) := by
      have : (2 : Int) ^ (k + 1) * c * (2 ^ (k + 1) * c) = 2 ^ (k + 1 + 1) * (2 ^ k * (c * c)) := by
        rw [Int.pow_succ (n := k + 1), Int.mul_assoc, Int.mul_left_comm c, ← Int.mul_assoc, ← Int.mul_assoc]
        rw [Int.pow_succ (n := k)]
        simp only [Int.mul_assoc, Int.mul_left_comm, Int.mul_comm]
      rw [this]; exact Int.dvd_mul_right _ _
    have d2 : ((2 : Int) ^ (k + 1 + 1)) ∣ 2 ^ w * (q * n) := by
      obtain ⟨r, hr⟩ : ∃ r, w = (k + 1 + 1) + r := ⟨w - (k + 1 + 1), by omega⟩
      rw [hr, Int.pow_add (n := r), Int.mul_assoc]
      exact Int.dvd_mul_right _ _
    exact Int.dvd_sub (Int.dvd_neg.mpr d1) d2
/-! ### what the program's words promise (nothing refused) -/
def spIntg : Sp := fun vs H Q _ => ∃ M v d, vs = [v] ∧ Dv M H v d ∧ Q (.bl (isIntg d)) H
def spWid : Sp := fun vs H Q _ => ∃ M v d, vs = [v] ∧ Dv M H v d ∧ Q (.bl (isWid d)) H
def spWordOf : Sp := fun vs H Q _ => ∃ (M : List Addr) (v : V) (d : PyData) (w : Nat), vs = [v, .int w] ∧ 1 ≤ w ∧ w ≤ 64 ∧ Dv M H v d ∧ Q (.bl (isWord w d)) H
def spChkW : Sp := fun vs H Q _ => ∃ (w : Nat) (x : V), vs = [.int w, x] ∧ 1 ≤ w ∧ w ≤ 64 ∧ Q .non H
def spChkWs (K : PySem.W.Frag) : Sp := fun vs H Q _ => ∃ (w : Nat) (t : Addr) (ns : List Int), vs = [.int w, .ref t] ∧ 1 ≤ w ∧ w ≤ 64 ∧ SqT K H t (ns.map V.int) ∧ (∀ n ∈ ns, Wd w n) ∧ ∀ H', Ex H H' → Q .non H'
def spBin (g : Nat → Int → Int → Int) : Sp := fun vs H Q _ => ∃ (w : Nat) (a b : Int), vs = [.int w, .int a, .int b] ∧ 1 ≤ w ∧ w ≤ 64 ∧ Wd w a ∧ Wd w b ∧ ∀ H', Ex H H' → Q (.int (g w a b)) H'
def spTimes : Sp := fun vs H Q _ => ∃ (w : Nat) (a b : Int), vs = [.int w, .int a, .int b] ∧ 1 ≤ w ∧ w ≤ 64 ∧ Wd w a ∧ b % 2 ≠ 0 ∧ b.natAbs < 2 ^ 4000 ∧ ∀ H', Ex H H' → Q (.int (a * b % 2 ^ w)) H'
def spBack : Sp := fun vs H Q _ => ∃ (w : Nat) (b : Int), vs = [.int w, .int b] ∧ 1 ≤ w ∧ w ≤ 64 ∧ b % 2 ≠ 0 ∧ b.natAbs < 2 ^ 4000 ∧ ∀ H', Ex H H' → Q (.int (backOf w b w)) H'
/-- the bits of a, p places up, round -/
def rotOf (w : Nat) (a : Int) (p : Nat) : Int := Builtin.bitOr (a * 2 ^ p) (a / 2 ^ (w - p)) % 2 ^ w
def spTurnBy : Sp := fun vs H Q _ => ∃ (w p : Nat) (a : Int), vs = [.int w, .int a, .int p] ∧ 1 ≤ w ∧ w ≤ 64 ∧ Wd w a ∧ p < w ∧ Q (.int (rotOf w a p)) H
def spTurn : Sp := fun vs H Q _ => ∃ (w : Nat) (a n : Int), vs = [.int w, .int a, .int n] ∧ 1 ≤ w ∧ w ≤ 64 ∧ Wd w a ∧ ∀ H', Ex H H' → Q (.int (rotOf w a (n % (w : Int)).toNat)) H'
theorem Dv.int' {H : Hp} (i : Int) : Dv [] H (.int i) (.int i) := .int i
end BkG
end
section
namespace BkG
open PySem PySem.Spec L2
/-! ### changes of words (k04), in plain Lean -/
structure Chg where
  at_ : Nat
  form : Nat
  isOf : Bool
  by_ : Int
def formV : Nat → Str
  | 0 => "plus" | 1 => "minus" | 2 => "mix" | 3 => "times" | _ => "turn"
/-- a change that may be drawn for m words of a width -/
structure Chg.Ok (w m : Nat) (c : Chg) : Prop where
  at_lt : c.at_ < m
  form_lt : c.form < 5
  odd : c.form = 3 → c.isOf = false ∧ c.by_ % 2 ≠ 0 ∧ c.by_.natAbs < 2 ^ 4000
  turn : c.form = 4 → c.isOf = false
  other : c.form < 3 → (c.isOf = true ∧ 0 ≤ c.by_ ∧ c.by_ < (m : Int) ∧ c.by_ ≠ (c.at_ : Int)) ∨ (c.isOf = false ∧ Wd w c.by_)
/-- what the word becomes -/
def Chg.new (w : Nat) (c : Chg) (one other : Int) (back : Bool) : Int :=
  if c.form = 0 then (if back then (one - other) % 2 ^ w else (one + other) % 2 ^ w)
  else if c.form = 1 then (if back then (one + other) % 2 ^ w else (one - other) % 2 ^ w)
  else if c.form = 2 then Builtin.bitXor one other
  else if c.form = 3 then one * (if back then backOf w other w else other) % 2 ^ w
  else rotOf w one ((if back then 0 - other else other) % (w : Int)).toNat
def Chg.oth (c : Chg) (ws : List Int) : Int := if c.isOf then ws.getD c.by_.toNat 0 else c.by_
def Chg.done (w : Nat) (c : Chg) (ws : List Int) (back : Bool) : List Int := ws.set c.at_ (c.new w (ws.getD c.at_ 0) (c.oth ws) back)
def Wds (w : Nat) (ws : List Int) : Prop := ∀ z ∈ ws, Wd w z
theorem or_nat (a b : Nat) : Builtin.bitOr (a : Int) (b : Int) = ((a ||| b : Nat) : Int) := by
  have h1 : ¬ (0 : Int) ≤ Builtin.bitNot (a : Int) := by unfold Builtin.bitNot; omega
  have h2 : ¬ (0 : Int) ≤ Builtin.bitNot (b : Int) := by unfold Builtin.bitNot; omega
  have e : ∀ n : Nat, (Builtin.bitNot (Builtin.bitNot (n : Int))).toNat = n := fun n => by unfold Builtin.bitNot; omega
  unfold Builtin.bitOr Builtin.bitAnd
  rw [decide_eq_false h1, decide_eq_false h2]
  show Builtin.bitNot (Builtin.bitNot _) = _
  rw [e, e]
  unfold Builtin.bitNot
  omega
theorem bit_split (x : Nat) : x = 2 * (x / 2) + (if x.testBit 0 = true then 1 else 0) := by
  rw [Nat.testBit_zero]
  by_cases h : x % 2 = 1
  · rw [decide_eq_true h, if_pos rfl]; omega
  · rw [decide_eq_false h, if_neg Bool.false_ne_true]; omega
theorem nat_or_and (a b : Nat) : a ||| b = (a ^^^ b) + (a &&& b) := by
  induction a using Nat.strongRecOn generalizing b with
  | _ a ih =>
    by_cases h0 : a = 0
    · subst h0; simp
    · have h := ih (a / 2) (by omega) (b / 2)
      have e1 := bit_split (a ||| b)
      have e2 := bit_split (a ^^^ b)
      have e3 := bit_split (a &&& b)
      rw [Nat.or_div_two, Nat.testBit_or] at e1
      rw [Nat.xor_div_two, Nat.testBit_xor] at e2
      rw [Nat.and_div_two, Nat.testBit_and] at e3
      cases ha : a.testBit 0 <;> cases hb : b.testBit 0 <;> rw [ha, hb] at e1 e2 e3 <;> simp at e1 e2 e3 <;> omega
theorem xor_nat (a b : Nat) : Builtin.bitXor (a : Int) (b : Int) = ((a ^^^ b : Nat) : Int) := by
  unfold Builtin.bitXor
  rw [or_nat, nat_or_and]
  have : Builtin.bitAnd (a : Int) (b : Int) = ((a &&& b : Nat) : Int) := by simp [Builtin.bitAnd]
  rw [this]
  omega
theorem Wd.nat {w : Nat} {a : Int} (h : Wd w a) : ∃ n : Nat, a = (n : Int) ∧ n < 2 ^ w := by
  refine ⟨a.toNat, (Int.toNat_of_nonneg h.1).symm, ?_⟩
  have h2 := h.2
  rw [← pow_cast] at h2
  have := h.1
  omega
theorem Wd.of_nat {w n : Nat} (h : n < 2 ^ w) : Wd w (n : Int) := ⟨by omega, by rw [← pow_cast]; exact_mod_cast h⟩
theorem xor_wd {w : Nat} {a b : Int} (ha : Wd w a) (hb : Wd w b) : Wd w (Builtin.bitXor a b) := by
  obtain ⟨x, rfl, hx⟩ := ha.nat
  obtain ⟨y, rfl, hy⟩ := hb.nat
  rw [xor_nat]
  exact .of_nat (Nat.xor_lt_two_pow hx hy)
theorem xor_back {w : Nat} {a b : Int} (ha : Wd w a) (hb : Wd w b) : Builtin.bitXor (Builtin.bitXor a b) b = a := by
  obtain ⟨x, rfl, hx⟩ := ha.nat
  obtain ⟨y, rfl, hy⟩ := hb.nat
  rw [xor_nat, xor_nat, Nat.xor_assoc, Nat.xor_self, Nat.xor_zero]
theorem sub_add_mod {w : Nat} {a b : Int} (ha : Wd w a) : ((a + b) % 2 ^ w - b) % 2 ^ w = a := by
  rw [Int.emod_sub_emod, show a + b - b = a by omega]
  exact Int.emod_eq_of_lt ha.1 ha.2
theorem add_sub_mod {w : Nat} {a b : Int} (ha : Wd w a) : ((a - b) % 2 ^ w + b) % 2 ^ w = a := by
  rw [Int.emod_add_emod, show a - b + b = a by omega]
  exact Int.emod_eq_of_lt ha.1 ha.2
theorem back_dvd {w : Nat} {n : Int} (hw : 1 ≤ w) (hn : n % 2 ≠ 0) : ((2 : Int) ^ w) ∣ backOf w n w * n - 1 := by
  -- the turns w - 1 undo n as far as w bits; one more turn keeps it
  obtain ⟨k, rfl⟩ : ∃ k, w = k + 1 := ⟨w - 1, by omega⟩
  obtain ⟨c, hc⟩ := backOf_ok (w := k + 1) hn k (Nat.le_refl _)
  have hm : backOf (k + 1) n (k + 1) = (backOf (k + 1) n k) * (2 - n * (backOf (k + 1) n k)) % 2 ^ (k + 1) := rfl
  obtain ⟨q, hq⟩ : ∃ q, backOf (k + 1) n (k + 1) = (backOf (k + 1) n k) * (2 - n * (backOf (k + 1) n k)) - 2 ^ (k + 1) * q := ⟨((backOf (k + 1) n k) * (2 - n * (backOf (k + 1) n k))) / 2 ^ (k + 1), by rw [hm, Int.emod_def]⟩
  rw [hq]
  generalize backOf (k + 1) n k = f at *
  have e1 : (f * (2 - n * f) - 2 ^ (k + 1) * q) * n - 1 = -((f * n - 1) * (f * n - 1)) - 2 ^ (k + 1) * (q * n) := by
    rw [Int.sub_mul, Int.mul_sub, Int.sub_mul, Int.sub_mul, Int.mul_sub, Int.mul_sub]
    have a1 : f * 2 * n = 2 * (f * n) := by rw [Int.mul_comm f 2, Int.mul_assoc]
    have a2 : f * (n * f) * n = f * n * (f * n) := by rw [Int.mul_assoc f (n * f) n, Int.mul_assoc n f n, ← Int.mul_assoc f n (f * n)]
    have a3 : 2 ^ (k + 1) * q * n = 2 ^ (k + 1) * (q * n) := Int.mul_assoc _ _ _
    rw [a1, a2, a3]
    omega
  rw [e1, hc]
  refine Int.dvd_sub (Int.dvd_neg.mpr ?_) (Int.dvd_mul_right _ _)
  rw [Int.mul_assoc]
  exact Int.dvd_mul_right _ _
theorem times_back {w : Nat} {a n : Int} (hw : 1 ≤ w) (ha : Wd w a) (hn : n % 2 ≠ 0) : a * n % 2 ^ w * backOf w n w % 2 ^ w = a := by
  obtain ⟨c, hc⟩ := back_dvd hw hn
  rw [Int.mul_emod, Int.emod_emod, ← Int.mul_emod, Int.mul_assoc, Int.mul_comm n, show backOf w n w * n = 1 + 2 ^ w * c by omega, Int.mul_add, Int.mul_one, Int.mul_left_comm, Int.add_mul_emod_self_left]
  exact Int.emod_eq_of_lt ha.1 ha.2
/-! rotations, by numbers -/
def rotN (w a p : Nat) : Nat := a * 2 ^ p % 2 ^ w + a / 2 ^ (w - p)
theorem rotOf_nat {w a p : Nat} (ha : a < 2 ^ w) (hp : p < w) : rotOf w (a : Int) p = (rotN w a p : Nat) := by
  unfold rotOf rotN
  have e1 : ((a : Int) * 2 ^ p) = ((a * 2 ^ p : Nat) : Int) := by rw [Int.natCast_mul, pow_cast]
  have e2 : ((a : Int) / 2 ^ (w - p)) = ((a / 2 ^ (w - p) : Nat) : Int) := by rw [Int.natCast_ediv, pow_cast]
  rw [e1, e2, or_nat, ← pow_cast, ← Int.natCast_emod]
  have hlow : a / 2 ^ (w - p) < 2 ^ p := by
    rw [Nat.div_lt_iff_lt_mul (Nat.pow_pos (by decide)), ← Nat.pow_add, show p + (w - p) = w by omega]
    exact ha
  have e3 : a * 2 ^ p ||| a / 2 ^ (w - p) = a * 2 ^ p + a / 2 ^ (w - p) := by
    have h := Nat.shiftLeft_add_eq_or_of_lt hlow a
    rw [Nat.shiftLeft_eq] at h
    exact h.symm
  rw [e3]
  congr 1
  -- (a * 2^p + r) % 2^w = a * 2^p % 2^w + r, r < 2^p
  have hdv : 2 ^ w = 2 ^ p * 2 ^ (w - p) := by rw [← Nat.pow_add, show p + (w - p) = w by omega]
  have hmm : a * 2 ^ p % 2 ^ w = 2 ^ p * (a % 2 ^ (w - p)) := by rw [Nat.mul_comm a, hdv, Nat.mul_mod_mul_left]
  have hlt : 2 ^ p * (a % 2 ^ (w - p)) + a / 2 ^ (w - p) < 2 ^ w := by
    have h1 : a % 2 ^ (w - p) < 2 ^ (w - p) := Nat.mod_lt _ (Nat.pow_pos (by decide))
    have h2 : 2 ^ p * (a % 2 ^ (w - p) + 1) ≤ 2 ^ p * 2 ^ (w - p) := Nat.mul_le_mul_left _ h1
    rw [← hdv, Nat.mul_add] at h2
    omega
  rw [Nat.add_mod, hmm, Nat.mod_eq_of_lt (a := a / 2 ^ (w - p)) (by
    have h4 : 2 ^ p ≤ 2 ^ w := Nat.pow_le_pow_right (by decide) (by omega)
    omega), Nat.mod_eq_of_lt hlt]
theorem rotN_eq {w a p : Nat} (hp : p < w) : rotN w a p = 2 ^ p * (a % 2 ^ (w - p)) + a / 2 ^ (w - p) := by
  unfold rotN
  have hdv : 2 ^ w = 2 ^ p * 2 ^ (w - p) := by rw [← Nat.pow_add, show p + (w - p) = w by omega]
  rw [Nat.mul_comm a, hdv, Nat.mul_mod_mul_left]
theorem rotN_lt {w a p : Nat} (ha : a < 2 ^ w) (hp : p < w) : rotN w a p < 2 ^ w := by
  rw [rotN_eq hp]
  have hdv : 2 ^ w = 2 ^ p * 2 ^ (w - p) := by rw [← Nat.pow_add, show p + (w - p) = w by omega]
  have hlow : a / 2 ^ (w - p) < 2 ^ p := by
    rw [Nat.div_lt_iff_lt_mul (Nat.pow_pos (by decide)), ← Nat.pow_add, show p + (w - p) = w by omega]
    exact ha
  have h1 : a % 2 ^ (w - p) < 2 ^ (w - p) := Nat.mod_lt _ (Nat.pow_pos (by decide))
  have h2 : 2 ^ p * (a % 2 ^ (w - p) + 1) ≤ 2 ^ p * 2 ^ (w - p) := Nat.mul_le_mul_left _ h1
  rw [← hdv, Nat.mul_add] at h2
  omega
theorem rotN_back {w a p : Nat} (ha : a < 2 ^ w) (hp0 : 0 < p) (hp : p < w) : rotN w (rotN w a p) (w - p) = a := by
  have hlow : a / 2 ^ (w - p) < 2 ^ p := by
    rw [Nat.div_lt_iff_lt_mul (Nat.pow_pos (by decide)), ← Nat.pow_add, show p + (w - p) = w by omega]
    exact ha
  rw [rotN_eq (p := w - p) (by omega), show w - (w - p) = p by omega, rotN_eq hp]
  have h1 : (2 ^ p * (a % 2 ^ (w - p)) + a / 2 ^ (w - p)) % 2 ^ p = a / 2 ^ (w - p) := by
    rw [Nat.mul_add_mod, Nat.mod_eq_of_lt hlow]
  have h2 : (2 ^ p * (a % 2 ^ (w - p)) + a / 2 ^ (w - p)) / 2 ^ p = a % 2 ^ (w - p) := by
    rw [Nat.mul_add_div (Nat.pow_pos (by decide)), Nat.div_eq_of_lt hlow, Nat.add_zero]
  rw [h1, h2]
  exact Nat.div_add_mod a (2 ^ (w - p))
theorem rotN_zero {w a : Nat} (ha : a < 2 ^ w) : rotN w a 0 = a := by
  unfold rotN
  rw [Nat.pow_zero, Nat.mul_one, Nat.mod_eq_of_lt ha, Nat.sub_zero, Nat.div_eq_of_lt ha, Nat.add_zero]
theorem rot_wd {w : Nat} {a : Int} {p : Nat} (ha : Wd w a) (hp : p < w) : Wd w (rotOf w a p) := by
  obtain ⟨x, rfl, hx⟩ := ha.nat
  rw [rotOf_nat hx hp]
  exact .of_nat (rotN_lt hx hp)
theorem rot_back {w : Nat} {a n : Int} (hw : 1 ≤ w) (ha : Wd w a) : rotOf w (rotOf w a (n % (w : Int)).toNat) ((0 - n) % (w : Int)).toNat = a := by
  obtain ⟨x, rfl, hx⟩ := ha.nat
  have m0 : 0 ≤ n % (w : Int) := Int.emod_nonneg _ (by omega)
  have m1 : n % (w : Int) < w := Int.emod_lt_of_pos _ (by omega)
  have hp : (n % (w : Int)).toNat < w := by omega
  have k0 : 0 ≤ (0 - n) % (w : Int) := Int.emod_nonneg _ (by omega)
  have k1 : (0 - n) % (w : Int) < w := Int.emod_lt_of_pos _ (by omega)
  rw [rotOf_nat hx hp, rotOf_nat (rotN_lt hx hp) (by omega)]
  congr 1
  by_cases h0 : n % (w : Int) = 0
  · have e : (0 - n) % (w : Int) = 0 := by
      rw [Int.zero_sub]
      exact Int.emod_eq_zero_of_dvd (Int.dvd_neg.mpr (Int.dvd_of_emod_eq_zero h0))
    rw [h0, e]
    show rotN w (rotN w x 0) 0 = x
    rw [rotN_zero hx, rotN_zero hx]
  · have e : (0 - n) % (w : Int) = w - n % (w : Int) := by
      have h1 : (0 - n) % (w : Int) = (w - n % (w : Int)) % (w : Int) := by
        rw [Int.sub_emod_emod]
        have : (w : Int) - n = (0 - n) + w := by omega
        rw [this]; simp
      rw [h1]
      exact Int.emod_eq_of_lt (by omega) (by omega)
    rw [e, show ((w : Int) - n % (w : Int)).toNat = w - (n % (w : Int)).toNat by omega]
    exact rotN_back hx (by omega) hp
theorem getD_set_self {l : List Int} {i : Nat} {x : Int} (h : i < l.length) : (l.set i x).getD i 0 = x := by
  rw [List.getD_eq_getElem?_getD, List.getElem?_set_self h]; rfl
theorem getD_set_ne {l : List Int} {i j : Nat} {x : Int} (h : i ≠ j) : (l.set i x).getD j 0 = l.getD j 0 := by
  rw [List.getD_eq_getElem?_getD, List.getElem?_set_ne h, List.getD_eq_getElem?_getD]
theorem set_getD_self {l : List Int} {i : Nat} (h : i < l.length) : l.set i (l.getD i 0) = l := by
  rw [List.getD_eq_getElem?_getD, List.getElem?_eq_getElem h]
  exact List.set_getElem_self h
theorem Wds.getD {w : Nat} {l : List Int} {i : Nat} (h : Wds w l) (hi : i < l.length) : Wd w (l.getD i 0) := by
  rw [List.getD_eq_getElem?_getD, List.getElem?_eq_getElem hi]
  exact h _ (List.getElem_mem hi)
theorem Chg.Ok.oth_wd {w : Nat} {c : Chg} {ws : List Int} (ok : c.Ok w ws.length) (h : Wds w ws) (hf : c.form < 3) : Wd w (c.oth ws) := by
  unfold Chg.oth
  rcases ok.other hf with ⟨e, h0, h1, _⟩ | ⟨e, hb⟩
  · rw [e, if_pos rfl]; exact h.getD (by omega)
  · rw [e, if_neg Bool.false_ne_true]; exact hb
theorem Chg.Ok.new_wd {w : Nat} {c : Chg} {ws : List Int} {back : Bool} (hw : 1 ≤ w) (ok : c.Ok w ws.length) (h : Wds w ws) : Wd w (c.new w (ws.getD c.at_ 0) (c.oth ws) back) := by
  have h1 := h.getD ok.at_lt
  unfold Chg.new
  split
  · cases back <;> exact Wd.mod _ _
  · split
    · cases back <;> exact Wd.mod _ _
    · split
      · exact xor_wd h1 (ok.oth_wd h (by omega))
      · split
        · exact Wd.mod _ _
        · have m1 : (if back = true then 0 - c.oth ws else c.oth ws) % (w : Int) < w := Int.emod_lt_of_pos _ (by omega)
          have m0 : 0 ≤ (if back = true then 0 - c.oth ws else c.oth ws) % (w : Int) := Int.emod_nonneg _ (by omega)
          exact rot_wd h1 (by omega)
theorem Chg.done_len {w : Nat} {c : Chg} {ws : List Int} {back : Bool} : (c.done w ws back).length = ws.length := by unfold Chg.done; rw [List.length_set]
theorem Chg.Ok.done_wd {w : Nat} {c : Chg} {ws : List Int} {back : Bool} (hw : 1 ≤ w) (ok : c.Ok w ws.length) (h : Wds w ws) : Wds w (c.done w ws back) := by
  intro z hz
  unfold Chg.done at hz
  rcases List.mem_or_eq_of_mem_set hz with h1 | h1
  · exact h z h1
  · rw [h1]; exact ok.new_wd hw h
theorem Chg.Ok.new_back {w : Nat} {c : Chg} {ws : List Int} (hw : 1 ≤ w) (ok : c.Ok w ws.length) (h : Wds w ws) :
    c.new w (c.new w (ws.getD c.at_ 0) (c.oth ws) false) (c.oth ws) true = ws.getD c.at_ 0 := by
  have h1 := h.getD ok.at_lt
  unfold Chg.new
  by_cases f0 : c.form = 0
  · rw [if_pos f0, if_pos f0]; exact sub_add_mod h1
  rw [if_neg f0, if_neg f0]
  by_cases f1 : c.form = 1
  · rw [if_pos f1, if_pos f1]; exact add_sub_mod h1
  rw [if_neg f1, if_neg f1]
  by_cases f2 : c.form = 2
  · rw [if_pos f2, if_pos f2]; exact xor_back h1 (ok.oth_wd h (by omega))
  rw [if_neg f2, if_neg f2]
  by_cases f3 : c.form = 3
  · rw [if_pos f3, if_pos f3]
    obtain ⟨e, ho, _⟩ := ok.odd f3
    have eo : c.oth ws = c.by_ := by unfold Chg.oth; rw [e, if_neg Bool.false_ne_true]
    rw [eo]
    exact times_back hw h1 ho
  · rw [if_neg f3, if_neg f3]
    exact rot_back hw h1
theorem Chg.Ok.back {w : Nat} {c : Chg} {ws : List Int} (hw : 1 ≤ w) (ok : c.Ok w ws.length) (h : Wds w ws) : c.done w (c.done w ws false) true = ws := by
  have hl := ok.at_lt
  have eo : c.oth (c.done w ws false) = c.oth ws := by
    unfold Chg.oth
    by_cases e : c.isOf = true
    · rw [if_pos e, if_pos e]
      have hf : c.form < 3 := by
        have h5 := ok.form_lt
        by_cases f3 : c.form = 3
        · rw [(ok.odd f3).1] at e; cases e
        · by_cases f4 : c.form = 4
          · rw [ok.turn f4] at e; cases e
          · omega
      rcases ok.other hf with ⟨_, h0, h1, h2⟩ | ⟨e', _⟩
      · exact getD_set_ne (by omega)
      · rw [e'] at e; cases e
    · rw [if_neg e, if_neg e]
  have e1 : (c.done w ws false).getD c.at_ 0 = c.new w (ws.getD c.at_ 0) (c.oth ws) false := getD_set_self hl
  show (c.done w ws false).set c.at_ (c.new w ((c.done w ws false).getD c.at_ 0) (c.oth (c.done w ws false)) true) = ws
  rw [eo, e1, ok.new_back hw h]
  unfold Chg.done
  rw [List.set_set]
  exact set_getD_self hl
/-! rows of changes -/
def doneAll (w : Nat) (cs : List Chg) (ws : List Int) : List Int := cs.foldl (fun l c => c.done w l false) ws
theorem doneAll_inj {w m : Nat} (hw : 1 ≤ w) : ∀ (cs : List Chg) (ws us : List Int), (∀ c ∈ cs, c.Ok w m) → ws.length = m → us.length = m → Wds w ws → Wds w us → doneAll w cs ws = doneAll w cs us → ws = us
  | [], ws, us, _, _, _, _, _, e => e
  | c :: cs, ws, us, ok, lw, lu, hws, hus, e => by
    have o1 : c.Ok w ws.length := by rw [lw]; exact ok c List.mem_cons_self
    have o2 : c.Ok w us.length := by rw [lu]; exact ok c List.mem_cons_self
    have ih := doneAll_inj hw cs (c.done w ws false) (c.done w us false) (fun d hd => ok d (List.mem_cons_of_mem _ hd)) (by rw [Chg.done_len, lw]) (by rw [Chg.done_len, lu]) (o1.done_wd hw hws) (o2.done_wd hw hus) e
    rw [← o1.back hw hws, ← o2.back hw hus, ih]
theorem doneAll_wd {w m : Nat} (hw : 1 ≤ w) : ∀ (cs : List Chg) (ws : List Int), (∀ c ∈ cs, c.Ok w m) → ws.length = m → Wds w ws → Wds w (doneAll w cs ws) ∧ (doneAll w cs ws).length = m
  | [], ws, _, lw, h => ⟨h, lw⟩
  | c :: cs, ws, ok, lw, h => by
    have o1 : c.Ok w ws.length := by rw [lw]; exact ok c List.mem_cons_self
    exact doneAll_wd hw cs (c.done w ws false) (fun d hd => ok d (List.mem_cons_of_mem _ hd)) (by rw [Chg.done_len, lw]) (o1.done_wd hw h)
/-! a change on the heap -/
def tagV : Bool → Str
  | true => "of"
  | false => "is"
def RC (H : Hp) (v : V) (c : Chg) : Prop := ∃ p q, v = .ref p ∧ H p = some (.tup [.int (c.at_ : Int), .str (formV c.form), .ref q]) ∧ H q = some (.tup [.str (tagV c.isOf), .int c.by_])
def spDone : Sp := fun vs H Q _ => ∃ (w : Nat) (l : Addr) (ws : List Int) (v : V) (c : Chg) (back : Bool), vs = [.int w, .ref l, v, .bl back] ∧ 1 ≤ w ∧ w ≤ 64 ∧ H l = some (.lst (ws.map V.int)) ∧ ws.length ≤ 1000 ∧ Wds w ws ∧ RC H v c ∧ c.Ok w ws.length ∧
  ∀ p H', H p = none → Ex H H' → H' p = some (.lst ((c.done w ws back).map V.int)) → Q (.ref p) H'
def spChange : Sp := fun vs H Q _ => ∃ (D L : Addr) (w m : Nat), vs = [.ref D, .int w, .int m] ∧ 1 ≤ w ∧ w ≤ 64 ∧ 1 ≤ m ∧ m ≤ 1000 ∧ Deal H D L ∧
  ∀ (c : Chg) (v : V) (H' : Hp), c.Ok w m → RC H' v c → Deal H' D L → Kp [D, L] H H' → Q v H'
theorem r_in {K : PySem.W.Frag} {H : Hp} {Q : VK} {x : V} {p : Addr} {xs : List V} (h : SqL K H p xs ∨ SqT K H p xs) (hx : flatV x = true) (ha : xs.all flatV = true) (q : Q (.bl (inV x xs)) H) : rIn K false x (.ref p) H Q := ⟨p, xs, rfl, h, hx, ha, q⟩
theorem r_notin {K : PySem.W.Frag} {H : Hp} {Q : VK} {x : V} {p : Addr} {xs : List V} (h : SqL K H p xs ∨ SqT K H p xs) (hx : flatV x = true) (ha : xs.all flatV = true) (q : Q (.bl (!inV x xs)) H) : rIn K true x (.ref p) H Q := ⟨p, xs, rfl, h, hx, ha, q⟩
theorem atI_getD {ws : List Int} {z : Int} (h0 : 0 ≤ z) (h1 : z < (ws.length : Int)) : atI (ws.map V.int) z = some (.int (ws.getD z.toNat 0)) := by
  obtain ⟨x, e, e'⟩ := atI_of (xs := ws.map V.int) h0 (by rw [List.length_map]; exact h1)
  obtain ⟨y, hy, rfl⟩ := map_some e'
  rw [e, List.getD_eq_getElem?_getD, hy]; rfl
theorem cut_from {xs : List V} {k : Nat} (h : k ≤ xs.length) : cutV xs (some (k : Int)) none = xs.drop k := by
  unfold cutV
  rw [HT.sIx_none, HT.sIx_nat, Nat.min_eq_left h]
  exact List.take_of_length_le (by rw [List.length_drop]; omega)
theorem done_list {w : Nat} {c : Chg} {ws : List Int} {back : Bool} (h : c.at_ < ws.length) : (c.done w ws back).map V.int = (ws.map V.int).take c.at_ ++ [V.int (c.new w (ws.getD c.at_ 0) (c.oth ws) back)] ++ (ws.map V.int).drop (c.at_ + 1) := by
  unfold Chg.done
  rw [List.set_eq_take_append_cons_drop, if_pos h, List.map_append, List.map_cons, List.map_take, List.map_drop]
  simp
end BkG
end
section
namespace BkG
open PySem PySem.Spec L2
/-! ### tuples stay -/
def Kt (H H' : Hp) : Prop := ∀ a xs, H a = some (.tup xs) → H' a = some (.tup xs)
theorem Kt.of_ex {H H' : Hp} (e : Ex H H') : Kt H H' := fun a xs h => e a _ h
theorem Kt.trans {H H1 H2 : Hp} (a : Kt H H1) (b : Kt H1 H2) : Kt H H2 := fun x xs h => b x xs (a x xs h)
theorem Deal.notup {H : Hp} {D L p : Addr} {xs : List V} (d : Deal H D L) (h : H p = some (.tup xs)) : p ≠ D ∧ p ≠ L := by
  obtain ⟨st, b, d⟩ := d
  exact ⟨fun e => (by rw [e, d.hD] at h; cases h), fun e => (by rw [e, d.hL] at h; cases h)⟩
theorem Kt.of_kp {H H' : Hp} {D L : Addr} (k : Kp [D, L] H H') (d : Deal H D L) : Kt H H' := fun a xs h => by
  obtain ⟨n1, n2⟩ := d.notup h
  exact k _ _ h (by simp [n1, n2])
theorem Kt.of_kp1 {H H' : Hp} {S : Addr} {xs : List V} (k : Kp [S] H H') (hS : H S = some (.lst xs)) : Kt H H' := fun a ys h => by
  refine k _ _ h ?_
  simp only [List.mem_singleton]
  intro e; rw [e, hS] at h; cases h
theorem Kt.of_mut {H H' : Hp} {S : Addr} {xs : List V} (k : ∀ a o, a ≠ S → H a = some o → H' a = some o) (hS : H S = some (.lst xs)) : Kt H H' := fun a ys h => k _ _ (fun e => by rw [e, hS] at h; cases h) h
theorem RC.kt {H H' : Hp} {v : V} {c : Chg} (h : RC H v c) (k : Kt H H') : RC H' v c := let ⟨p, q, e, h1, h2⟩ := h; ⟨p, q, e, k _ _ h1, k _ _ h2⟩
def RCs (H : Hp) (vs : List V) (cs : List Chg) : Prop := vs.length = cs.length ∧ ∀ (i : Nat) (v : V) (c : Chg), vs[i]? = some v → cs[i]? = some c → RC H v c
theorem RCs.kt {H H' : Hp} {vs : List V} {cs : List Chg} (h : RCs H vs cs) (k : Kt H H') : RCs H' vs cs := ⟨h.1, fun i v c a b => (h.2 i v c a b).kt k⟩
theorem RCs.snoc {H : Hp} {vs : List V} {cs : List Chg} {v : V} {c : Chg} (h : RCs H vs cs) (r : RC H v c) : RCs H (vs ++ [v]) (cs ++ [c]) := by
  refine ⟨by simp [h.1], fun i x y hx hy => ?_⟩
  by_cases hi : i < vs.length
  · rw [List.getElem?_append_left hi] at hx
    rw [List.getElem?_append_left (by rw [← h.1]; exact hi)] at hy
    exact h.2 i x y hx hy
  · rw [List.getElem?_append_right (by omega)] at hx
    rw [List.getElem?_append_right (by rw [← h.1]; omega)] at hy
    rw [h.1] at hx
    rcases hz : i - cs.length with _ | z
    · rw [hz] at hx hy; cases hx; cases hy; exact r
    · rw [hz] at hx; cases hx
theorem Deal.kp1 {H H' : Hp} {D L S : Addr} (d : Deal H D L) (k : Kp [S] H H') (n1 : S ≠ D) (n2 : S ≠ L) : Deal H' D L := by
  obtain ⟨st, b, d⟩ := d
  exact ⟨st, b, k _ _ d.hD (by simpa using fun e => n1 e.symm), k _ _ d.hL (by simpa using fun e => n2 e.symm), d.len, d.all, d.b0, d.b1⟩
theorem Deal.kpm {H H' : Hp} {D L S : Addr} (d : Deal H D L) (k : ∀ a o, a ≠ S → H a = some o → H' a = some o) (n1 : S ≠ D) (n2 : S ≠ L) : Deal H' D L := by
  obtain ⟨st, b, d⟩ := d
  exact ⟨st, b, k _ _ (fun e => n1 e.symm) d.hD, k _ _ (fun e => n2 e.symm) d.hL, d.len, d.all, d.b0, d.b1⟩
theorem Deal.fresh {H : Hp} {D L p : Addr} (h : Deal H D L) (hp : H p = none) : p ≠ D ∧ p ≠ L := by
  obtain ⟨st, b, d⟩ := h
  exact ⟨fun e => (by rw [e, d.hD] at hp; cases hp), fun e => (by rw [e, d.hL] at hp; cases hp)⟩
/-! ### rows of changes, turn by turn -/
theorem doneAll_more {w : Nat} {cs : List Chg} {c : Chg} {ws : List Int} : doneAll w (cs ++ [c]) ws = c.done w (doneAll w cs ws) false := by
  unfold doneAll; rw [List.foldl_append]; rfl
theorem doneAll_take {w i : Nat} {cs : List Chg} {c : Chg} {ws : List Int} (h : cs[i]? = some c) : doneAll w (cs.take (i + 1)) ws = c.done w (doneAll w (cs.take i) ws) false := by
  rw [take_more h, doneAll_more]
/-! ### ints, equal lists -/
theorem eqv_ints : ∀ ns : List Int, PyData.eqv (.list (ns.map PyData.int)) (.list (ns.map PyData.int)) = true := by
  have h : ∀ ns : List Int, PyData.eqvAll (ns.map PyData.int) (ns.map PyData.int) = true := by
    intro ns
    induction ns with
    | nil => rfl
    | cons n r ih => simp only [List.map_cons, PyData.eqvAll, ih, Bool.and_true]; simp [PyData.eqv]
  intro ns
  simp only [PyData.eqv]; exact h ns
theorem okD_ints {ns : List Int} {k : Nat} (h : ns.length ≤ 90000) : okD (k + 1) (.list (ns.map PyData.int)) = true := by
  simp only [okD, Bool.and_eq_true, decide_eq_true_eq, List.all_eq_true, List.length_map]
  refine ⟨h, fun x hx => ?_⟩
  obtain ⟨n, _, rfl⟩ := List.mem_map.mp hx
  cases k <;> rfl
theorem dv_ints {M : List Addr} {H : Hp} {a : Addr} {ns : List Int} (h : H a = some (.lst (ns.map V.int))) (n : a ∉ M) : Dv M H (.ref a) (.list (ns.map PyData.int)) := by
  refine .lst h n (by simp) fun i v d h1 h2 => ?_
  obtain ⟨x, e1, rfl⟩ := map_some h1
  obtain ⟨y, e2, rfl⟩ := map_some h2
  rw [e1] at e2; cases e2; exact .int x
/-- a list of n different numbers below n, sorted, counts -/
theorem sorted_range {n : Nat} {ys : List Int} (hl : ys.length = n) (hn : ys.Nodup) (hs : ys.Pairwise (· ≤ ·)) (hb : ∀ y ∈ ys, 0 ≤ y ∧ y < (n : Int)) : ys = (List.range n).map fun i : Nat => (i : Int) := by
  have hlt : ∀ (i : Nat) (hi : i < ys.length) (j : Nat) (hj : j < ys.length), i < j → ys[i] < ys[j] := fun i hi j hj hij => by
    have h1 := List.pairwise_iff_getElem.mp hs i j hi hj hij
    have h2 := List.pairwise_iff_getElem.mp hn i j hi hj hij
    omega
  have low : ∀ (i : Nat) (hi : i < ys.length), (i : Int) ≤ ys[i] := by
    intro i
    induction i with
    | zero => intro hi; exact (hb _ (List.getElem_mem hi)).1
    | succ i ih =>
      intro hi
      have h1 := ih (by omega)
      have h2 := hlt i (by omega) (i + 1) hi (by omega)
      omega
  have high : ∀ (k i : Nat) (hi : i < ys.length), i + k + 1 = ys.length → ys[i] ≤ (i : Int) := by
    intro k
    induction k with
    | zero => intro i hi e; have h := (hb _ (List.getElem_mem hi)).2; omega
    | succ k ih =>
      intro i hi e
      have h1 := ih (i + 1) (by omega) (by omega)
      have h2 := hlt i hi (i + 1) (by omega) (by omega)
      omega
  refine List.ext_getElem (by simp [hl]) fun i h1 h2 => ?_
  have a := low i h1
  have b := high (ys.length - i - 1) i h1 (by omega)
  simp only [List.getElem_map, List.getElem_range]
  omega
theorem sorted_image {n : Nat} {f : Nat → Int} {ys : List Int} (hp : ys.Perm ((List.range n).map f)) (hs : ys.Pairwise (· ≤ ·)) (hb : ∀ j, j < n → 0 ≤ f j ∧ f j < (n : Int)) (inj : ∀ j k, j < n → k < n → f j = f k → j = k) : ys = (List.range n).map fun i : Nat => (i : Int) := by
  refine sorted_range ?_ ?_ hs fun y hy => ?_
  · rw [hp.length_eq, List.length_map, List.length_range]
  · refine hp.nodup_iff.mpr (List.pairwise_map.mpr ?_)
    refine List.Pairwise.imp_of_mem (fun {a b} ha hb hne e => hne (inj a b (List.mem_range.mp ha) (List.mem_range.mp hb) e)) List.nodup_range
  · obtain ⟨j, hj, rfl⟩ := List.mem_map.mp (hp.mem_iff.mp hy)
    exact hb j (List.mem_range.mp hj)
theorem Kt.of_kpD {H H' : Hp} {S : Addr} {kvs : List (Key × V)} (k : Kp [S] H H') (hS : H S = some (.dK kvs)) : Kt H H' := fun a ys h => by
  refine k _ _ h ?_
  simp only [List.mem_singleton]
  intro e; rw [e, hS] at h; cases h
theorem one_list {l : List Int} (h : l.length = 1) : l = [l.getD 0 0] := by
  match l, h with
  | [x], _ => rfl
theorem rgV_nat {n : Nat} : rgV 0 (n : Int) = ((List.range n).map fun i : Nat => (i : Int)).map V.int := by
  unfold rgV
  rw [show ((n : Int) - 0).toNat = n by omega, List.map_map]
  refine List.map_congr_left fun i _ => ?_
  show V.int (0 + (i : Int)) = V.int (i : Int)
  rw [Int.zero_add]
theorem atI_last_get {α : Type} {xs : List α} (h : 0 < xs.length) : atI xs (-1) = xs[xs.length - 1]? := by
  unfold atI ixN
  rw [if_neg (by omega), if_pos (by omega)]
  show xs[(-1 + (xs.length : Int)).toNat]? = _
  rw [show (-1 + (xs.length : Int)).toNat = xs.length - 1 by omega]
theorem ty_and {A B : Prop} (a : A) (b : B) : A ∧ B := ⟨a, b⟩
/-! ### dicts with keys of ints -/
theorem putK_new {kvs : List (Key × V)} {ks : List Int} {k : Int} {v : V} (h : kvs.map (·.1) = ks.map Sum.inl) (n : k ∉ ks) : putK kvs (Sum.inl k) v = kvs ++ [(Sum.inl k, v)] := by
  unfold putK
  rw [if_neg]
  intro e
  obtain ⟨kv, hkv, e'⟩ := List.any_eq_true.mp e
  have e2 : kv.1 = Sum.inl k := of_decide_eq_true e'
  have h2 : kv.1 ∈ kvs.map (·.1) := List.mem_map.mpr ⟨kv, hkv, rfl⟩
  rw [h, e2] at h2
  obtain ⟨z, hz, e3⟩ := List.mem_map.mp h2
  cases e3
  exact n hz
section
variable {K : PySem.W.Frag} {σ : St} {H : Hp} {Q : VK} {f bk ct : St → Hp → Prop} {rt : VK} {td ty tv : TE}
theorem w_dnewK (q : ∀ p H2, H p = none → Ex H H2 → H2 p = some (.dK []) → Q (.ref p) H2) : tDNewK σ H Q := fun p hp => q p _ hp (Ex.new hp) upd_same
def kPut (td ty : TE) (D : Ends) (σ : St) : VK := fun v H1 => td σ H1 fun x H2 => ty σ H2 fun y H3 => ∃ a H4, x = .ref a ∧ DPut H3 a y v H4 ∧ D.nx σ H4
theorem w_dput (h : tv σ H fun v H1 => td σ H1 fun x H2 => ty σ H2 fun y H3 => ∃ a H4, x = .ref a ∧ DPut H3 a y v H4 ∧ f σ H4) : sDPut td ty tv ⟨f, rt, bk, ct⟩ σ H := h
theorem put_ok {a : Addr} {kvs : List (Key × V)} {k : Int} {v : V} {F : Hp → Prop} (h : H a = some (.dK kvs)) (hl : kvs.length < 100000) (q : ∀ H2, Kp [a] H H2 → H2 a = some (.dK (putK kvs (Sum.inl k) v)) → F H2) : ∃ b H4, V.ref a = .ref b ∧ DPut H b (.int k) v H4 ∧ F H4 :=
  ⟨a, _, rfl, DPut.k (k := Sum.inl k) h (sz_lt hl), q _ (fun x o hx n => by rw [upd_ne (by simpa using n)]; exact hx) upd_same⟩
def kRg (Q : VK) : VK := fun x H1 => ∃ n, x = .int n ∧ RgOk 0 n ∧ ∀ q, H1 q = none → Q (.ref q) (upd H1 q (.lst (rgV 0 n)))
theorem w_lstRg {te : TE} (h : te σ H (kRg Q)) : tLstRg (tRg1 te) σ H Q := h
theorem k_rg {n : Nat} (hn : n ≤ 16777216) (q : ∀ p H2, H p = none → Ex H H2 → H2 p = some (.lst (((List.range n).map fun i : Nat => (i : Int)).map V.int)) → Q (.ref p) H2) : kRg Q (.int (n : Int)) H :=
  ⟨_, rfl, RgOk.of_le (by omega) (by omega) (by omega) (by omega), fun p hp => q p _ hp (Ex.new hp) (by rw [rgV_nat]; exact upd_same)⟩
end
end BkG
end
section
namespace PySem
namespace BkZip
open Sem (wp)
section
variable {prog : Program} {w : World} {A : Around} {E : Value → Shared → Prop} {s : Shared}
theorem max_intTup {l : Addr} {xs : Array (Int × Tok)} {Q : Value → Shared → Prop} (hh : A.handled = none) (hl : s.heap.IsTuple l (intItems xs)) (hll : l < s.heap.objs.size) (hne : 0 < xs.size)
    (h : ∀ v h' tk, (intItems xs)[argBest (fun i j => decide (numAt xs i > numAt xs j)) (xs.size - 1)]? = some v → (∀ b o, s.heap.get? b = some o → h'.get? b = some o) → Q v { s with heap := h', toks := tk }) :
    wpAny (model prog w) A (call (.builtin "max") [.ref l]) Q E s := by
  refine call_max_walk (wpAny_pyIter_tuple hl ?_)
  refine ⟨_, [_, l], [_], _, _, _, _, rfl, Walks.tuple (A := A.in1) hh _ l (Nat.ne_of_lt hll) (intItems xs),
    ⟨⟨_, Heap.get?_push_size _ rfl, rfl, rfl⟩, hl.push _⟩, fun c hc => ?_, by simpa [intItems] using hne, CmpOf.ints_gt (numAt xs) (fun _ _ => intItems_at), fun v h' tk hP hk => ?_⟩
  · show c < (s.heap.push _).objs.size
    rw [Heap.size_push]
    rcases List.mem_cons.mp hc with rfl | hc
    · exact Nat.lt_succ_self _
    · rcases List.mem_cons.mp hc with rfl | hc
      · exact Nat.lt_succ_of_lt hll
      · cases hc
  · refine h v h' tk (by simpa [intItems] using hP) fun b o e => hk b o (fun hm => ?_) (Heap.get?_push_of_some _ e)
    have e2 := List.mem_singleton.mp hm
    have h3 := Heap.lt_size e
    rw [e2] at h3
    exact absurd h3 (Nat.lt_irrefl _)
theorem min_intTup {l : Addr} {xs : Array (Int × Tok)} {Q : Value → Shared → Prop} (hh : A.handled = none) (hl : s.heap.IsTuple l (intItems xs)) (hll : l < s.heap.objs.size) (hne : 0 < xs.size)
    (h : ∀ v h' tk, (intItems xs)[argBest (fun i j => decide (numAt xs i < numAt xs j)) (xs.size - 1)]? = some v → (∀ b o, s.heap.get? b = some o → h'.get? b = some o) → Q v { s with heap := h', toks := tk }) :
    wpAny (model prog w) A (call (.builtin "min") [.ref l]) Q E s := by
  refine call_min_walk (wpAny_pyIter_tuple hl ?_)
  refine ⟨_, [_, l], [_], _, _, _, _, rfl, Walks.tuple (A := A.in1) hh _ l (Nat.ne_of_lt hll) (intItems xs),
    ⟨⟨_, Heap.get?_push_size _ rfl, rfl, rfl⟩, hl.push _⟩, fun c hc => ?_, by simpa [intItems] using hne, CmpOf.ints_lt (numAt xs) (fun _ _ => intItems_at), fun v h' tk hP hk => ?_⟩
  · show c < (s.heap.push _).objs.size
    rw [Heap.size_push]
    rcases List.mem_cons.mp hc with rfl | hc
    · exact Nat.lt_succ_self _
    · rcases List.mem_cons.mp hc with rfl | hc
      · exact Nat.lt_succ_of_lt hll
      · cases hc
  · refine h v h' tk (by simpa [intItems] using hP) fun b o e => hk b o (fun hm => ?_) (Heap.get?_push_of_some _ e)
    have e2 := List.mem_singleton.mp hm
    have h3 := Heap.lt_size e
    rw [e2] at h3
    exact absurd h3 (Nat.lt_irrefl _)
end
theorem zip_no_len : typeLookup (.type "zip") "__len__" = pure none := am_miss_of_fast (by decide +kernel)
theorem zip_no_hint : typeLookup (.type "zip") "__length_hint__" = pure none := am_miss_of_fast (by decide +kernel)
end BkZip
end PySem
namespace BkG
open PySem PySem.Spec PyProof.Rows L2
/-! ### max, min of a tuple of ints -/
def rMaxT (K : PySem.W.Frag) : List V → Hp → VK → Prop := fun vs H Q => ∃ (a : Addr) (ns : List Int), vs = [V.ref a] ∧ SqT K H a (ns.map V.int) ∧ 0 < ns.length ∧ ∀ m, m ∈ ns → (∀ y, y ∈ ns → y ≤ m) → Q (.int m) H
def rMinT (K : PySem.W.Frag) : List V → Hp → VK → Prop := fun vs H Q => ∃ (a : Addr) (ns : List Int), vs = [V.ref a] ∧ SqT K H a (ns.map V.int) ∧ 0 < ns.length ∧ ∀ m, m ∈ ns → (∀ y, y ∈ ns → m ≤ y) → Q (.int m) H
theorem cr_maxT {X : Cx} (hc : X.calm = true) : CallR X (.builtin "max") (rMaxT X.K) := by
  intro pins s σ H vs us Q I r h
  obtain ⟨a, ns, rfl, hs, hne, q⟩ := h
  obtain ⟨its, rv, hl, _⟩ := I.tuple hs
  rw [Vals.ref1 r]
  have hi := rv.ints
  obtain ⟨xs, e⟩ := hi.allInts.items
  have hn : numsOf (intItems xs).toList = ns := by rw [← e]; exact hi.numsOf
  rw [nums_intItems] at hn
  subst hn
  have hl' : s.heap.IsTuple a its.toArray := hl
  rw [e] at hl'
  have hsz : 0 < xs.size := by simpa using hne
  refine PySem.BkZip.max_intTup (I.ok.hd hc) hl' hl.lt hsz fun v h' tk hv hk => ?_
  obtain ⟨t, rfl⟩ := intItems_at hv
  obtain ⟨h1, h2⟩ := argBest_gt (numAt xs) (xs.size - 1)
  refine ⟨.int _, H, I.kept hk, ⟨_, rfl⟩, q _ ?_ fun b hb => ?_⟩
  · rw [numAt_eq]; exact PySem.getD_mem (by rw [List.length_map, Array.length_toList]; omega)
  · obtain ⟨j, hj, rfl⟩ := mem_getD hb
    rw [List.length_map, Array.length_toList] at hj
    rw [← numAt_eq]; exact h2 j (by omega)
theorem cr_minT {X : Cx} (hc : X.calm = true) : CallR X (.builtin "min") (rMinT X.K) := by
  intro pins s σ H vs us Q I r h
  obtain ⟨a, ns, rfl, hs, hne, q⟩ := h
  obtain ⟨its, rv, hl, _⟩ := I.tuple hs
  rw [Vals.ref1 r]
  have hi := rv.ints
  obtain ⟨xs, e⟩ := hi.allInts.items
  have hn : numsOf (intItems xs).toList = ns := by rw [← e]; exact hi.numsOf
  rw [nums_intItems] at hn
  subst hn
  have hl' : s.heap.IsTuple a its.toArray := hl
  rw [e] at hl'
  have hsz : 0 < xs.size := by simpa using hne
  refine PySem.BkZip.min_intTup (I.ok.hd hc) hl' hl.lt hsz fun v h' tk hv hk => ?_
  obtain ⟨t, rfl⟩ := intItems_at hv
  obtain ⟨h1, h2⟩ := argBest_lt (numAt xs) (xs.size - 1)
  refine ⟨.int _, H, I.kept hk, ⟨_, rfl⟩, q _ ?_ fun b hb => ?_⟩
  · rw [numAt_eq]; exact PySem.getD_mem (by rw [List.length_map, Array.length_toList]; omega)
  · obtain ⟨j, hj, rfl⟩ := mem_getD hb
    rw [List.length_map, Array.length_toList] at hj
    rw [← numAt_eq]; exact h2 j (by omega)
/-! ### list(zip(two lists)) -/
section
variable {X : Cx} {pins : List (Addr × Obj)} {σ : L2.St} {H : Hp} {s : Shared} {z TI TO i1 i2 a b q : Addr}
theorem fp_mv {H H' : Hp} {c : Addr} (f : FpOk X pins H c) (n : H' c = none) : FpOk X pins H' c := ⟨n, f.2⟩
/-- the zip at z, i pairs drawn; the list at q is none of its parts -/
def ZS (z TI TO i1 i2 a b q : Addr) (i : Nat) (h : Heap) : Prop := IsPair h TI (.ref i1) (.ref i2) ∧ h.IsListIter i1 a i ∧ h.IsListIter i2 b i ∧ (∃ oO, h.get? TO = some oO) ∧
  ((IsZip h z TI TO .none ∧ ∃ x y, IsPair h TO x y) ∨ ∃ T f oT, IsZipHeld h z TI TO T f ∧ h.get? T = some oT ∧ T ≠ z ∧ T ≠ i1 ∧ T ≠ i2 ∧ T ≠ q)
theorem ZS.keep {i : Nat} {h h' : Heap} (st : ZS z TI TO i1 i2 a b q i h) (n1 : TI ≠ q) (n2 : i1 ≠ q) (n3 : i2 ≠ q) (n4 : z ≠ q) (n5 : TO ≠ q) (k : ∀ c o, c ≠ q → h.get? c = some o → h'.get? c = some o) : ZS z TI TO i1 i2 a b q i h' := by
  obtain ⟨hTI, h1, h2, ⟨oO, hO⟩, hz⟩ := st
  refine ⟨k _ _ n1 hTI, h1.at fun o e => k _ o n2 e, h2.at fun o e => k _ o n3 e, ⟨oO, k _ _ n5 hO⟩, ?_⟩
  rcases hz with ⟨hz, x, y, hTO⟩ | ⟨T, f, oT, hz, hT, r1, r2, r3, r4⟩
  · exact .inl ⟨k _ _ n4 hz, x, y, k _ _ n5 hTO⟩
  · exact .inr ⟨T, f, oT, k _ _ n4 hz, k _ _ r4 hT, r1, r2, r3, r4⟩
/-- the list made so far: pairs -/
def ZL (H0 H : Hp) (q : Addr) (xs ys : List V) (ts : List Addr) : Prop := Ex H0 H ∧ H q = some (.lst (ts.map V.ref)) ∧ ∀ (i : Nat) (x y : V) (t : Addr), xs[i]? = some x → ys[i]? = some y → ts[i]? = some t → H t = some (.tup [x, y])
theorem zl_loop {A1 : Around} {H0 : Hp} {xs ys : List V} {Rs : Result → Shared → Prop} (hh : A1.in1.handled = none) (D : ZipApart z TI TO i1 i2 a b) (hq0 : H0 q = none) (hlen : xs.length = ys.length) (hz : xs.length ≤ sizeLine) (hx0 : SqL X.K H0 a xs) (hy0 : SqL X.K H0 b ys)
    (nq : q ≠ z ∧ q ≠ TI ∧ q ≠ TO ∧ q ≠ i1 ∧ q ≠ i2) (hdone : ∀ ts H s, Inv X pins σ H s → ts.length = xs.length → ZL H0 H q xs ys ts → Rs (.ok (.ret .none)) s) :
    ∀ (k i : Nat) (s : Shared) (H : Hp) (ts : List Addr), i + k = xs.length → Inv X pins σ H s → (∀ c ∈ [z, TO, i1, i2], FpOk X pins H c) → ZS z TI TO i1 i2 a b q i s.heap → ts.length = i → ZL H0 H q xs ys ts →
      codeAny (model X.prog X.w) A1 (.builtin "list.extend.loop" ⟨[.ref q, .ref z, .none], []⟩) Rs s := by
  intro k
  induction k with
  | zero =>
    intro i s H ts hik I hf st hts L
    refine codeAny_builtin PySem.F.entry_extend_loop ?_
    rw [Around.under_plainId PySem.F.plain_extend_loop _]
    show wpAny _ A1.in1 (pyNext (.ref z) >>= _) _ _ s
    obtain ⟨hTI, h1, h2, ⟨oO, hO⟩, hzz⟩ := st
    obtain ⟨its, rv, p, _⟩ := I.list (L.1.sqL hx0)
    obtain ⟨its2, rv2, p2, _⟩ := I.list (L.1.sqL hy0)
    have l1 := rv.length
    have hend : its.toArray[i]? = none ∨ its2.toArray[i]? = none := .inl (by simp; omega)
    have fin : ∀ h' : Heap, (∀ c o, c ∉ [z, TO, i1, i2] → s.heap.get? c = some o → h'.get? c = some o) → Rs (.ok (.ret .none)) { s with heap := h' } := fun h' hk =>
      hdone ts H _ (I.turnedL (t' := s.toks) hk hf) (by omega) L
    rcases hzz with ⟨hzz, x, y, hTO⟩ | ⟨T, f, oT, hzz, hT, r1, r2, r3, r4⟩
    · refine wpAny_bind (wpAny_pyNext_zip_end hh D hzz hTI hTO h1 h2 p.isList p2.isList hend fun h' hk => ?_)
      exact wpAny_pure (fin h' fun c o hc e => hk c o (fun z => hc (by simp [z])) (fun z => hc (by simp [z])) (fun z => hc (by simp [z])) (fun z => hc (by simp [z])) e)
    · refine wpAny_bind (wpAny_pyNext_zip_end_held hh D hzz hT hTI h1 h2 p.isList p2.isList hend fun h' hk => ?_)
      exact wpAny_pure (fin h' fun c o hc e => hk c o (fun z => hc (by simp [z])) (fun z => hc (by simp [z])) (fun z => hc (by simp [z])) e)
  | succ k ih =>
    intro i s H ts hik I hf st hts L
    refine codeAny_builtin PySem.F.entry_extend_loop ?_
    rw [Around.under_plainId PySem.F.plain_extend_loop _]
    show wpAny _ A1.in1 (pyNext (.ref z) >>= _) _ _ s
    obtain ⟨hTI, h1, h2, ⟨oO, hO⟩, hzz⟩ := st
    obtain ⟨its, rv, p, _⟩ := I.list (L.1.sqL hx0)
    obtain ⟨its2, rv2, p2, _⟩ := I.list (L.1.sqL hy0)
    have hix : i < xs.length := by omega
    have hiy : i < ys.length := by omega
    have ex : xs[i]? = some xs[i] := List.getElem?_eq_getElem hix
    have ey : ys[i]? = some ys[i] := List.getElem?_eq_getElem hiy
    obtain ⟨u, hu, ru⟩ := rv.get ex
    obtain ⟨u2, hu2, ru2⟩ := rv2.get ey
    have lt : ∀ {c o}, s.heap.get? c = some o → s.heap.objs.size ≠ c := fun e => Nat.ne_of_gt (Heap.lt_size e)
    have zlt : ∃ o, s.heap.get? z = some o := by
      rcases hzz with ⟨hzz, _⟩ | ⟨T, f, oT, hzz, _⟩
      · exact ⟨_, hzz⟩
      · exact ⟨_, hzz⟩
    have qlt : q < s.heap.objs.size := by
      obtain ⟨_, _, _, _, _, e⟩ := I.lstM L.2.1
      exact Heap.lt_size e
    have nT : ∀ c, c ∈ [z, i1, i2, q] → s.heap.objs.size ≠ c := fun c hc => by
      have e' : c = z ∨ c = i1 ∨ c = i2 ∨ c = q := by simpa using hc
      rcases e' with e | e | e | e
      · rw [e]; obtain ⟨o, e⟩ := zlt; exact lt e
      · rw [e]; obtain ⟨_, e, _⟩ := h1; exact lt e
      · rw [e]; obtain ⟨_, e, _⟩ := h2; exact lt e
      · rw [e]; exact Nat.ne_of_gt qlt
    have step : ∀ h' : Heap, IsPair h' TI (.ref i1) (.ref i2) → h'.IsListIter i1 a (i + 1) → h'.IsListIter i2 b (i + 1) → IsPair h' s.heap.objs.size u u2 → (∃ oO, h'.get? TO = some oO) → (∃ T f oT, IsZipHeld h' z TI TO T f ∧ h'.get? T = some oT ∧ T ≠ z ∧ T ≠ i1 ∧ T ≠ i2 ∧ T ≠ q) →
        (∀ c o, c ∉ [z, TO, i1, i2] → s.heap.get? c = some o → h'.get? c = some o) →
        wpAny (model X.prog X.w) A1.in1 (updateSeq q (·.push (.ref s.heap.objs.size)) >>= fun _ => again (.builtin "list.extend.loop" ⟨[.ref q, .ref z, .none], []⟩))
          (fun fin s' => match fin with | .done f => Rs (.ok f) s' | .again c' => c'.quiet = true ∧ codeAny (model X.prog X.w) A1 c' Rs s') (fun e s' => Rs (.error e) s') { s with heap := h' } := by
      intro h' aTI a1 a2 aT aO az hk
      have new : ObjOk X.prog X.w (upd H s.heap.objs.size (.tup [xs[i], ys[i]])) h' s.heap.objs.size (.tup [xs[i], ys[i]]) :=
        ⟨by show 2 ≤ sizeLine; decide, [u, u2], .cons ru (.cons ru2 .nil), ⟨_, aT, rfl, _, rfl⟩⟩
      have I1 : Inv X pins σ (upd H s.heap.objs.size (.tup [xs[i], ys[i]])) { s with heap := h' } := I.turnedNew (t' := s.toks) hk hf (Nat.le_refl _) new
      have hTn : H s.heap.objs.size = none := I.hok.fresh (Nat.le_refl _)
      have hq1 : upd H s.heap.objs.size (.tup [xs[i], ys[i]]) q = some (.lst (ts.map V.ref)) := by rw [upd_ne (Nat.ne_of_lt qlt)]; exact L.2.1
      obtain ⟨zz, jts, n, r2, hl2, e⟩ := I1.lstM hq1
      rw [List.length_map] at zz hl2
      have I2 := I1.lset (f := (·.push (.ref s.heap.objs.size))) (its' := jts ++ [.ref s.heap.objs.size]) (ys := (ts ++ [s.heap.objs.size]).map V.ref) (t' := s.toks) hq1 e (by simp) (by rw [List.map_append]; exact r2.append (.cons rfl .nil)) (by rw [List.length_map, List.length_append, List.length_singleton]; omega)
      refine wpAny_bind (wpAny_updateSeq e rfl (wpAny_pure ⟨plainId_quiet PySem.F.plain_extend_loop _, ?_⟩) (by rw [List.size_toArray]; omega) (by show (jts.toArray.push _).size ≤ sizeLine + 1; rw [Array.size_push, List.size_toArray]; omega))
      have kq : ∀ c o, c ≠ q → h'.get? c = some o → (h'.update q (Obj.mapSeq (·.push (.ref s.heap.objs.size)))).get? c = some o := fun c o hc e => (Heap.get?_update_other _ _ (Ne.symm hc)).trans e
      refine ih (i + 1) _ _ (ts ++ [s.heap.objs.size]) (by omega) I2 (fun c hc => ?_) (ZS.keep ⟨aTI, a1, a2, aO, .inr az⟩ nq.2.1.symm nq.2.2.2.1.symm nq.2.2.2.2.symm nq.1.symm nq.2.2.1.symm kq) (by simp [hts]) ⟨?_, upd_same, fun j x y t hx hy ht => ?_⟩
      · refine fp_mv (hf c hc) ?_
        have hcq : c ≠ q := by
          have e' : c = z ∨ c = TO ∨ c = i1 ∨ c = i2 := by simpa using hc
          rcases e' with e | e | e | e <;> rw [e]
          · exact nq.1.symm
          · exact nq.2.2.1.symm
          · exact nq.2.2.2.1.symm
          · exact nq.2.2.2.2.symm
        rw [upd_ne hcq]
        have hcs : c ≠ s.heap.objs.size := by
          have e' : c = z ∨ c = TO ∨ c = i1 ∨ c = i2 := by simpa using hc
          rcases e' with e | e | e | e
          · rw [e]; exact (nT z (by simp)).symm
          · rw [e]; exact (lt hO).symm
          · rw [e]; exact (nT i1 (by simp)).symm
          · rw [e]; exact (nT i2 (by simp)).symm
        rw [upd_ne hcs]
        exact (hf c hc).1
      · exact fun c o hc => by
          have h0 := L.1 _ _ hc
          rw [upd_ne (ne_of_none hc hq0), upd_ne (ne_of_none h0 hTn)]
          exact h0
      · by_cases hj : j < i
        · rw [List.getElem?_append_left (by omega)] at ht
          have h0 := L.2.2 j x y t hx hy ht
          rw [upd_ne (fun e => by rw [e, L.2.1] at h0; cases h0), upd_ne (ne_of_none h0 hTn)]
          exact h0
        · rw [List.getElem?_append_right (by omega), hts] at ht
          have hji : j = i := by
            have := (List.getElem?_eq_some_iff.mp ht).1
            simp at this
            omega
          subst hji
          rw [Nat.sub_self] at ht
          cases ht
          rw [ex] at hx; rw [ey] at hy
          cases hx; cases hy
          rw [upd_ne (Nat.ne_of_gt qlt)]
          exact upd_same
    rcases hzz with ⟨hzz, x, y, hTO⟩ | ⟨T, f, oT, hzz, hT, r1, r2, r3, r4⟩
    · refine wpAny_bind (wpAny_pyNext_zip_item D hzz hTI hTO h1 h2 p.isList p2.isList (x := u) (y := u2) (by simpa using hu) (by simpa using hu2) fun h' a1 a2 a3 a4 a5 a6 hk => ?_)
      exact step h' (hk _ _ D.TIz D.TITO D.TIi1 D.TIi2 hTI) a3 a4 a5 ⟨_, a2⟩ ⟨s.heap.objs.size, false, _, a1, a5, nT z (by simp), nT i1 (by simp), nT i2 (by simp), nT q (by simp)⟩
        fun c o hc e => hk c o (fun z => hc (by simp [z])) (fun z => hc (by simp [z])) (fun z => hc (by simp [z])) (fun z => hc (by simp [z])) e
    · refine wpAny_bind (wpAny_pyNext_zip_item_held D hzz hT hTI h1 h2 p.isList p2.isList (x := u) (y := u2) (by simpa using hu) (by simpa using hu2) fun h' a1 a3 a4 a5 a6 hk => ?_)
      exact step h' (hk _ _ D.TIz D.TIi1 D.TIi2 hTI) a3 a4 a5 ⟨oO, hk _ _ D.TOz D.TOi1 D.TOi2 hO⟩ ⟨T, true, oT, a1, hk _ _ r1 r2 r3 hT, r1, r2, r3, r4⟩
        fun c o hc e => hk c o (fun z => hc (by simp [z])) (fun z => hc (by simp [z])) (fun z => hc (by simp [z])) e

theorem zl_hint {M : Model} {A : Around} {E : Value → Shared → Prop} {Q : Bool → Shared → Prop} (hT : s.TypeIs (.ref z) "zip") (h : Q true s) : wpAny M A (Builtin.List.listLengthHint (.ref z)) Q E s := by
  unfold Builtin.List.listLengthHint
  refine wpAny_bind (wpAny_specialOf hT PySem.BkZip.zip_no_len ?_)
  show wpAny _ A (specialOf (Value.ref z) (Str.ofString "__length_hint__") >>= _) _ _ _
  refine wpAny_bind (wpAny_specialOf hT PySem.BkZip.zip_no_hint ?_)
  exact wpAny_pure h
theorem call_listZip {Q : VK} {xs ys : List V} (hc : X.calm = true) (I : Inv X pins σ H s) (D : ZipApart z TI TO i1 i2 a b) (hz : IsZip s.heap z TI TO .none) (hTI : IsPair s.heap TI (.ref i1) (.ref i2)) (hTO : ∃ x y, IsPair s.heap TO x y) (h1 : s.heap.IsListIter i1 a 0) (h2 : s.heap.IsListIter i2 b 0)
    (hf : ∀ c ∈ [z, TO, i1, i2], FpOk X pins H c) (hlen : xs.length = ys.length) (hx0 : SqL X.K H a xs) (hy0 : SqL X.K H b ys)
    (q : ∀ l H2 ts, H l = none → ts.length = xs.length → ZL H H2 l xs ys ts → Q (.ref l) H2) :
    wpAny (model X.prog X.w) X.A (call (.type "list") [.ref z]) (fun r s' => ∃ v H', Inv X pins σ H' s' ∧ RelV v r ∧ Q v H') X.xe s := by
  obtain ⟨_, _, _, hlz⟩ := I.list hx0
  refine callType_codes (Q₁ := fun obj s₁ => obj = .ref s.heap.objs.size ∧ s₁ = { s with heap := s.heap.push { cls := .type "list", data := .seq #[] } }) PySem.F.called_list (PySem.F.typeCall_list_1 _) PySem.F.entry_list_init
    (code_list_new _ ⟨rfl, rfl⟩) fun obj s₁ h₁ => ?_
  obtain ⟨rfl, rfl⟩ := h₁
  have hS : (s.heap.push { cls := .type "list", data := .seq #[] }).get? s.heap.objs.size = some { cls := .type "list", data := .seq #[] } := Heap.get?_push_size _ rfl
  refine ⟨⟨_, hS, rfl⟩, PySem.F.args_list_init_2 _ _, ?_⟩
  have fr : H s.heap.objs.size = none := I.hok.fresh (Nat.le_refl _)
  have I1 : Inv X pins σ (upd H s.heap.objs.size (.lst [])) { s with heap := s.heap.push { cls := .type "list", data := .seq #[] } } := I.lnew (its := []) (t' := s.toks) .nil (Nat.zero_le _)
  show wpAny _ _ (do let old ← Builtin.List.listItems (.ref s.heap.objs.size); Builtin.List.listUpdate (.ref s.heap.objs.size) (fun _ => #[]); letGo old.toList.reverse; Builtin.List.listExtendWith (.ref s.heap.objs.size) (.ref z) .none) _ _ _
  refine wpAny_bind ?_
  unfold Builtin.List.listItems
  refine wpAny_bind (wpAny_seqItems hS rfl (wpAny_pure ?_))
  show wpAny _ _ (updateSeq s.heap.objs.size (fun _ => #[]) >>= fun _ => letGo (#[] : Array Value).toList.reverse >>= fun _ => Builtin.List.listExtendWith (.ref s.heap.objs.size) (.ref z) .none) _ _ _
  refine wpAny_bind (wpAny_updateSeq hS rfl ?_)
  have I2 := I1.lset (f := fun _ => #[]) (its := []) (its' := []) (ys := []) (t' := s.toks) upd_same hS rfl .nil (Nat.zero_le _)
  rw [upd_upd] at I2
  refine wpAny_bind (wpAny_letGo ?_)
  obtain ⟨p, hp⟩ : ∃ p, p = s.heap.objs.size := ⟨_, rfl⟩
  have lt : ∀ {c o}, s.heap.get? c = some o → p ≠ c := fun e => by rw [hp]; exact Nat.ne_of_gt (Heap.lt_size e)
  have nz : p ≠ z := lt hz
  have nTI : p ≠ TI := lt hTI
  have nTO : p ≠ TO := by obtain ⟨x, y, e⟩ := hTO; exact lt e
  have n1 : p ≠ i1 := by obtain ⟨_, e, _⟩ := h1; exact lt e
  have n2 : p ≠ i2 := by obtain ⟨_, e, _⟩ := h2; exact lt e
  have ZS0 : ZS z TI TO i1 i2 a b p 0 s.heap := ⟨hTI, h1, h2, (by obtain ⟨x, y, e⟩ := hTO; exact ⟨_, e⟩), .inl ⟨hz, hTO⟩⟩
  rw [← hp] at I2 fr hS ⊢
  have k0 : ∀ c o, c ≠ p → s.heap.get? c = some o → ((s.heap.push { cls := .type "list", data := .seq #[] }).update p (Obj.mapSeq fun _ => #[])).get? c = some o := fun c o hcp e =>
    (Heap.get?_update_other _ _ (Ne.symm hcp)).trans (Heap.get?_push_of_some _ e)
  have ZS1 := ZS0.keep nTI.symm n1.symm n2.symm nz.symm nTO.symm k0
  generalize hs' : ({ s with heap := (s.heap.push { cls := .type "list", data := .seq #[] }).update p (Obj.mapSeq fun _ => #[]) } : Shared) = s' at I2 ⊢
  have hh' : s'.heap = (s.heap.push { cls := .type "list", data := .seq #[] }).update p (Obj.mapSeq fun _ => #[]) := by rw [← hs']
  rw [← hh'] at ZS1
  have hzz : IsZip s'.heap z TI TO .none := by rw [hh']; exact k0 _ _ nz.symm hz
  have hT : s'.TypeIs (.ref z) "zip" := ⟨_, hzz, rfl⟩
  have hTok : Inv X pins σ (upd H p (.lst [])) s' := I2
  clear I2 k0 ZS0
  have hfp : ∀ c ∈ [z, TO, i1, i2], FpOk X pins (upd H p (.lst [])) c := fun c hcm => by
    refine fp_mv (hf c hcm) ?_
    have hne : c ≠ p := by
      have e' : c = z ∨ c = TO ∨ c = i1 ∨ c = i2 := by simpa using hcm
      rcases e' with e | e | e | e <;> rw [e]
      · exact nz.symm
      · exact nTO.symm
      · exact n1.symm
      · exact n2.symm
    rw [upd_ne hne]
    exact (hf c hcm).1
  have L0 : ZL H (upd H p (.lst [])) p xs ys [] := ⟨Ex.new fr, upd_same, fun i x y t _ _ ht => by cases ht⟩
  have loop : ∀ (s2 : Shared), Inv X pins σ (upd H p (.lst [])) s2 → ZS z TI TO i1 i2 a b p 0 s2.heap →
      codeAny (model X.prog X.w) X.A.in1 (.builtin "list.extend.loop" ⟨[.ref p, .ref z, .none], []⟩) (wants (fun r s₂ => r = .none ∧ ∃ v H', Inv X pins σ H' s₂ ∧ RelV v (.ref p) ∧ Q v H') X.xe) s2 := fun s2 J st2 =>
    zl_loop (A1 := X.A.in1) (show X.A.in1.in1.handled = none from I.ok.hd hc) D fr hlen hlz hx0 hy0 ⟨nz, nTI, nTO, n1, n2⟩ (fun ts H3 s3 J3 hl3 L3 => ⟨rfl, .ref p, H3, J3, rfl, q p H3 ts fr hl3 L3⟩) xs.length 0 s2 _ [] (by omega) J hfp st2 rfl L0
  unfold Builtin.List.listExtendWith
  refine wpAny_bind (wpAny_typeOf hT ?_)
  have g1 : Builtin.List.listSameRef (.ref p) (.ref z) = false := by simp [Builtin.List.listSameRef, nz]
  have g2 : (Value.type "zip" == Value.type "list") = false := by decide
  have g3 : (Value.type "zip" == Value.type "tuple") = false := by decide
  simp only [g1, g2, g3, Bool.or_false, Bool.false_eq_true, if_false]
  refine wpAny_bind (wpAny_pyIter_zip hzz ?_)
  refine wpAny_bind (wpAny_holding (zl_hint hT ?_))
  obtain ⟨zz, its, kk, r3, hl3, e3⟩ := hTok.lstM (l := p) upd_same
  cases r3
  show wpAny _ _ (rule "list.extend.makes-room" >>= fun _ => Builtin.List.listTouch (.ref p) >>= fun _ => again (.builtin "list.extend.loop" ⟨[.ref p, .ref z, .none], []⟩)) _ _ _
  refine wpAny_bind (wpAny_rule ?_)
  refine wpAny_bind ?_
  show wpAny _ _ (updateSeq p (·.push .none) >>= fun _ => updateSeq p (·.pop)) _ _ _
  refine wpAny_bind (wpAny_updateSeq e3 rfl ?_)
  have J2 := hTok.lset (f := (·.push Value.none)) (its' := [Value.none]) (ys := [.non]) (t' := s'.toks) upd_same e3 (by simp) (.cons rfl .nil) (by rw [List.length_singleton, sizeLine_eq]; decide)
  obtain ⟨z4, its4, k4, r4, hl4, e4⟩ := J2.lstM (l := p) upd_same
  obtain ⟨u4, rfl, ru4⟩ := r4.one
  refine wpAny_updateSeq e4 rfl ?_ (by show 1 ≤ sizeLine; rw [sizeLine_eq]; decide) (by show 0 ≤ sizeLine + 1; exact Nat.zero_le _)
  refine wpAny_pure ⟨plainId_quiet PySem.F.plain_extend_loop _, loop _ ?_ ?_⟩
  · have J3 := J2.lset (f := (·.pop)) (its := [u4]) (its' := []) (ys := []) (t' := s'.toks) upd_same e4 (by rfl) .nil (Nat.zero_le _)
    rw [upd_upd, upd_upd] at J3
    exact J3
  · exact ZS1.keep nTI.symm n1.symm n2.symm nz.symm nTO.symm fun c o hcp e => (Heap.get?_update_other _ _ (Ne.symm hcp)).trans ((Heap.get?_update_other _ _ (Ne.symm hcp)).trans e)
/-- list(zip(e, e2)) of two lists of one length -/
def aZip (K : PySem.W.Frag) (Q : VK) : List V → Hp → Prop := fun vs H1 => ∃ a b xs ys, vs = [.ref a, .ref b] ∧ SqL K H1 a xs ∧ SqL K H1 b ys ∧ xs.length = ys.length ∧ ∀ l H2 ts, H1 l = none → ts.length = xs.length → ZL H1 H2 l xs ys ts → Q (.ref l) H2
def tLstZip (K : PySem.W.Frag) (ta : TA) : TE := fun σ H Q => ta σ H (aZip K Q)
theorem w_lstZip {K : PySem.W.Frag} {ta : TA} {Q : VK} (h : ta σ H (aZip K Q)) : tLstZip K ta σ H Q := h
theorem pe_lstZip {e e2 : Expr} {ta : TA} {p pos p2 pos2 : Pos} (hc : X.calm = true) (hg : Gl X "list") (hm : X.mg "list" = none) (hg2 : Gl X "zip") (hm2 : X.mg "zip" = none) (ha : PA X [e, e2] ta)
    (na : starEach [.Call (.Name "zip" p2) [e, e2] [] pos2] X.env = (false, eval (.Call (.Name "zip" p2) [e, e2] [] pos2) X.env) :: starEach [] X.env := by rfl)
    (hs : starEach [e, e2] X.env = (false, eval e X.env) :: starEach [e2] X.env := by rfl) (hpl : (backTo pos2 (starEach [e2] X.env)).any (·.1) = false := by rfl) :
    PE X (.Call (.Name "list" p) [.Call (.Name "zip" p2) [e, e2] [] pos2] [] pos) (tLstZip X.K ta) := by
  refine ⟨fun pins s σ H Q I h => ?_⟩
  refine Call_ (ld_blt I hg hm boot_list (PyProof.Rows.callWith_type1 (args_cons (?_) na) na))
  refine Call_ (ld_blt I hg2 hm2 PyProof.Rows.boot_zip (PyProof.Rows.callWith_type1 (thn (ha.run pos2 pins s σ H _ I h) fun us s1 ⟨vs, H1, I1, r1, q1⟩ => ?_) hs hpl))
  obtain ⟨a, b, xs, ys, ex, hqx, hqy, hlen, q⟩ := q1
  subst ex
  cases r1 with
  | cons r rr =>
    cases rr with
    | cons r' rr =>
      cases rr
      cases r
      cases r'
      have fresh5 : ∀ c, c ∈ [s1.heap.objs.size + 4, s1.heap.objs.size + 3, s1.heap.objs.size, s1.heap.objs.size + 1] → FpOk X pins H1 c := fun c hcm => by
        have e' : c = s1.heap.objs.size + 4 ∨ c = s1.heap.objs.size + 3 ∨ c = s1.heap.objs.size ∨ c = s1.heap.objs.size + 1 := by simpa using hcm
        have hle : s1.heap.objs.size ≤ c := by
          rcases e' with z | z | z | z
          · rw [z]; exact Nat.le_add_right _ _
          · rw [z]; exact Nat.le_add_right _ _
          · rw [z]; exact Nat.le_refl _
          · rw [z]; exact Nat.le_add_right _ _
        exact I1.fpOk hle (I1.hok.fresh hle)
      obtain ⟨its, rv, p1, _⟩ := I1.list hqx
      obtain ⟨its2, rv2, p2', _⟩ := I1.list hqy
      refine call_zip_2 p1.isList p2'.isList fun h' hz hTI hTO h1 h2 hsz hk => ?_
      have I2 : Inv X pins σ H1 { s1 with heap := h' } := I1.kept (t' := s1.toks) hk
      refine args_nil ?_
      exact call_listZip hc I2 (PySem.W.ktu_apart s1.heap.objs.size a b p1.lt p2'.lt) hz hTI ⟨_, _, hTO⟩ h1 h2 fresh5 hlen hqx hqy q
end
end BkG
end
section
namespace BkG
open PySem PySem.Spec L2
/-! ### what two words tell, in plain Lean -/
def opV : Nat → Str
  | 0 => "add" | 1 => "sub" | 2 => "mul" | 3 => "mix" | 4 => "both" | 5 => "any" | 6 => "same" | 7 => "less" | 8 => "div" | _ => "mod"
def opF (w : Nat) : Nat → Int → Int → Int
  | 0, a, b => (a + b) % 2 ^ w
  | 1, a, b => (a - b) % 2 ^ w
  | 2, a, b => (a * b) % 2 ^ w
  | 3, a, b => Builtin.bitXor a b
  | 4, a, b => Builtin.bitAnd a b
  | 5, a, b => Builtin.bitOr a b
  | _, a, b => if a = b then 1 else 0
theorem and_nat (a b : Nat) : Builtin.bitAnd (a : Int) (b : Int) = ((a &&& b : Nat) : Int) := by simp [Builtin.bitAnd]
theorem opF3 (w : Nat) (a b : Int) : opF w 3 a b = Builtin.bitXor a b := rfl
theorem opF4 (w : Nat) (a b : Int) : opF w 4 a b = Builtin.bitAnd a b := rfl
theorem opF5 (w : Nat) (a b : Int) : opF w 5 a b = Builtin.bitOr a b := rfl
theorem opF_wd {w k : Nat} {a b : Int} (hw : 1 ≤ w) (ha : Wd w a) (hb : Wd w b) : Wd w (opF w k a b) := by
  obtain ⟨x, rfl, hx⟩ := ha.nat
  obtain ⟨y, rfl, hy⟩ := hb.nat
  match k with
  | 0 => exact Wd.mod _ _
  | 1 => exact Wd.mod _ _
  | 2 => exact Wd.mod _ _
  | 3 => exact xor_wd (.of_nat hx) (.of_nat hy)
  | 4 => rw [opF4, and_nat]; exact .of_nat (Nat.and_lt_two_pow _ hy)
  | 5 => rw [opF5, or_nat]; exact .of_nat (Nat.or_lt_two_pow hx hy)
  | _ + 6 =>
    have h1 : (1 : Int) < 2 ^ w := by
      have h : (2 : Int) ^ 1 ≤ 2 ^ w := by
        rw [← pow_cast, ← pow_cast]
        exact_mod_cast Nat.pow_le_pow_right (by decide) hw
      have e : (2 : Int) ^ 1 = 2 := by decide
      omega
    show Wd w (if _ then 1 else 0)
    split
    · exact ⟨by decide, h1⟩
    · exact ⟨by decide, pow_pos' w⟩
/-! the same beside a lesser width -/
theorem pow_dvd' {s w : Nat} (h : s ≤ w) : (2 : Int) ^ s ∣ 2 ^ w := by
  obtain ⟨r, rfl⟩ : ∃ r, w = s + r := ⟨w - s, by omega⟩
  rw [Int.pow_add]; exact Int.dvd_mul_right _ _
theorem mod_mod' {s w : Nat} {a : Int} (h : s ≤ w) : a % 2 ^ w % 2 ^ s = a % 2 ^ s := Int.emod_emod_of_dvd _ (pow_dvd' h)
theorem natmod {x s : Nat} : ((x : Int) % 2 ^ s) = ((x % 2 ^ s : Nat) : Int) := by rw [← pow_cast, Int.natCast_emod]
theorem opF_less {w s k : Nat} {a b : Int} (h : s ≤ w) (hk : k < 6) (ha : Wd w a) (hb : Wd w b) : opF w k a b % 2 ^ s = opF s k (a % 2 ^ s) (b % 2 ^ s) := by
  obtain ⟨x, rfl, hx⟩ := ha.nat
  obtain ⟨y, rfl, hy⟩ := hb.nat
  match k with
  | 0 => show (_ % _ % _ : Int) = _ % _; rw [mod_mod' h, Int.add_emod]
  | 1 => show (_ % _ % _ : Int) = _ % _; rw [mod_mod' h, Int.sub_emod]
  | 2 => show (_ % _ % _ : Int) = _ % _; rw [mod_mod' h, Int.mul_emod]
  | 3 => rw [opF3, opF3, xor_nat, natmod, natmod, natmod, xor_nat, Nat.xor_mod_two_pow]
  | 4 => rw [opF4, opF4, and_nat, natmod, natmod, natmod, and_nat, Nat.and_mod_two_pow]
  | 5 => rw [opF5, opF5, or_nat, natmod, natmod, natmod, or_nat, Nat.or_mod_two_pow]
  | _ + 6 => omega
/-- one number alone undoes an odd one -/
theorem back_unique {s : Nat} {f g n : Int} (hf : (2 : Int) ^ s ∣ f * n - 1) (hg : (2 : Int) ^ s ∣ g * n - 1) : f % 2 ^ s = g % 2 ^ s := by
  obtain ⟨c, hc⟩ := hf
  obtain ⟨d, hd⟩ := hg
  have e : f - g = 2 ^ s * (c * g - d * f) := by
    have h1 : f * n = 2 ^ s * c + 1 := by omega
    have h2 : g * n = 2 ^ s * d + 1 := by omega
    have a1 : f * n * g = 2 ^ s * (c * g) + g := by rw [h1, Int.add_mul, Int.mul_assoc, Int.one_mul]
    have a2 : g * n * f = 2 ^ s * (d * f) + f := by rw [h2, Int.add_mul, Int.mul_assoc, Int.one_mul]
    have a3 : f * n * g = g * n * f := by rw [Int.mul_assoc, Int.mul_comm f, Int.mul_comm n g]
    rw [Int.mul_sub]
    omega
  exact Int.emod_eq_emod_iff_emod_sub_eq_zero.mpr (Int.emod_eq_zero_of_dvd (by rw [e]; exact Int.dvd_mul_right _ _))
theorem back_less {w s : Nat} {n : Int} (hs : 1 ≤ s) (h : s ≤ w) (hn : n % 2 ≠ 0) : backOf w n w % 2 ^ s = backOf s n s := by
  have h1 := back_dvd (w := w) (by omega) hn
  have h2 := back_dvd hs hn
  rw [back_unique (Int.dvd_trans (pow_dvd' h) h1) h2]
  have h3 := backOf_wd (n := n) hs s
  exact Int.emod_eq_of_lt h3.1 h3.2
/-! both, any, together -/
theorem both_any (a b : Nat) : (a &&& b) + (a ||| b) = a + b := by
  have h : ∀ (n a b : Nat), a ≤ n → (a &&& b) + (a ||| b) = a + b := by
    intro n
    induction n with
    | zero => intro a b h; have : a = 0 := by omega
              subst this; simp
    | succ n ih =>
      intro a b h
      by_cases h0 : a = 0
      · subst h0; simp
      · have h := ih (a / 2) (b / 2) (by omega)
        have e1 := bit_split (a ||| b)
        have e3 := bit_split (a &&& b)
        rw [Nat.or_div_two, Nat.testBit_or] at e1
        rw [Nat.and_div_two, Nat.testBit_and] at e3
        have ea := bit_split a
        have eb := bit_split b
        cases ha : a.testBit 0 <;> cases hb : b.testBit 0 <;> rw [ha, hb] at e1 e3 <;> rw [ha] at ea <;> rw [hb] at eb <;> simp at e1 e3 ea eb <;> omega
  exact h a a b (Nat.le_refl _)
theorem plus_both {w : Nat} {a b : Int} (ha : Wd w a) (hb : Wd w b) : opF w 4 a b + opF w 5 a b = a + b := by
  obtain ⟨x, rfl, hx⟩ := ha.nat
  obtain ⟨y, rfl, hy⟩ := hb.nat
  rw [opF4, opF5, and_nat, or_nat]
  have := both_any x y
  omega
theorem minus_both {w : Nat} {a b : Int} (ha : Wd w a) (hb : Wd w b) : (opF w 5 a b - opF w 4 a b) % 2 ^ w = Builtin.bitXor a b := by
  have h := xor_wd ha hb
  obtain ⟨x, rfl, hx⟩ := ha.nat
  obtain ⟨y, rfl, hy⟩ := hb.nat
  have e : opF w 5 (x : Int) (y : Int) - opF w 4 x y = Builtin.bitXor (x : Int) (y : Int) := by
    rw [opF4, opF5, and_nat, or_nat, xor_nat]
    have := nat_or_and x y
    omega
  rw [e]
  exact Int.emod_eq_of_lt h.1 h.2
theorem same_both {w : Nat} {a b : Int} (ha : Wd w a) (hb : Wd w b) : opF w 4 a b = opF w 5 a b ↔ a = b := by
  obtain ⟨x, rfl, hx⟩ := ha.nat
  obtain ⟨y, rfl, hy⟩ := hb.nat
  rw [opF4, opF5, and_nat, or_nat]
  constructor
  · intro e
    have e' : x &&& y = x ||| y := by omega
    have h1 := nat_or_and x y
    have h2 : x ^^^ y = 0 := by omega
    have h3 : x = y := by
      have : (x ^^^ y) ^^^ y = 0 ^^^ y := by rw [h2]
      rw [Nat.xor_assoc, Nat.xor_self, Nat.xor_zero, Nat.zero_xor] at this
      exact this
    rw [h3]
  · intro e
    have e' : x = y := by omega
    subst e'; simp
/-! bits -/
def bitOf (a i : Nat) : Int := ((a / 2 ^ i % 2 : Nat) : Int)
def bitsOf (w a : Nat) : List Int := (List.range w).map (bitOf a)
def numOf (bits : List Int) : Int := bits.foldr (fun b acc => acc * 2 + b) 0
theorem bitOf_eq (a i : Nat) : bitOf a i = if a.testBit i then 1 else 0 := by
  unfold bitOf
  rw [Nat.testBit_eq_decide_div_mod_eq]
  by_cases h : a / 2 ^ i % 2 = 1
  · rw [h, decide_eq_true rfl]; rfl
  · have h0 : a / 2 ^ i % 2 = 0 := by omega
    rw [h0]; rfl
theorem numOf_bits : ∀ (w a : Nat), a < 2 ^ w → numOf (bitsOf w a) = (a : Int)
  | 0, a, h => by have : a = 0 := by simpa using h
                  subst this; rfl
  | w + 1, a, h => by
    have ih := numOf_bits w (a / 2) (by rw [Nat.pow_succ] at h; omega)
    have e : bitsOf (w + 1) a = bitOf a 0 :: bitsOf w (a / 2) := by
      unfold bitsOf
      rw [List.range_succ_eq_map, List.map_cons, List.map_map]
      congr 1
      refine List.map_congr_left fun i _ => ?_
      show bitOf a (i + 1) = bitOf (a / 2) i
      unfold bitOf
      rw [Nat.div_div_eq_div_mul, Nat.pow_succ, Nat.mul_comm]
    rw [e]
    show numOf (bitsOf w (a / 2)) * 2 + bitOf a 0 = _
    rw [ih]
    unfold bitOf
    rw [Nat.pow_zero, Nat.div_one]
    omega
theorem bits_both (a b i : Nat) : min (bitOf a i) (bitOf b i) = bitOf (a &&& b) i := by
  rw [bitOf_eq, bitOf_eq, bitOf_eq, Nat.testBit_and]
  cases a.testBit i <;> cases b.testBit i <;> decide
theorem bits_any (a b i : Nat) : max (bitOf a i) (bitOf b i) = bitOf (a ||| b) i := by
  rw [bitOf_eq, bitOf_eq, bitOf_eq, Nat.testBit_or]
  cases a.testBit i <;> cases b.testBit i <;> decide
theorem bits_mix (a b i : Nat) : (if bitOf a i ≠ bitOf b i then (1 : Int) else 0) = bitOf (a ^^^ b) i := by
  rw [bitOf_eq, bitOf_eq, bitOf_eq, Nat.testBit_xor]
  cases a.testBit i <;> cases b.testBit i <;> decide
theorem bit_01 (a i : Nat) : 0 ≤ bitOf a i ∧ bitOf a i ≤ 1 := by unfold bitOf; omega
/-! ### what the law's helpers promise -/
def spBits : Sp := fun vs H Q _ => ∃ (w a : Nat), vs = [.int w, .int a] ∧ w ≤ 64 ∧ a < 2 ^ 64 ∧ ∀ p H', H p = none → Ex H H' → H' p = some (.lst ((bitsOf w a).map V.int)) → Q (.ref p) H'
def spNumber : Sp := fun vs H Q _ => ∃ (l : Addr) (bs : List Int), vs = [.ref l] ∧ H l = some (.lst (bs.map V.int)) ∧ bs.length ≤ 64 ∧ (∀ b ∈ bs, 0 ≤ b ∧ b ≤ 1) ∧ ∀ H', Ex H H' → Q (.int (numOf bs)) H'
def spTold : Sp := fun vs H Q _ => ∃ (w k : Nat) (a b : Int), vs = [.int w, .str (opV k), .int a, .int b] ∧ 1 ≤ w ∧ w ≤ 64 ∧ k < 6 ∧ Wd w a ∧ Wd w b ∧ ∀ H', Ex H H' → Q (.int (opF w k a b)) H'
def spResult : Sp := fun vs H Q _ => ∃ (w k : Nat) (a b : Int), vs = [.str (opV k), .int w, .int a, .int b] ∧ 1 ≤ w ∧ w ≤ 64 ∧ k < 7 ∧ Wd w a ∧ Wd w b ∧ ∀ H', Ex H H' → Q (.int (opF w k a b)) H'
def spReck : Sp := fun vs H Q _ => ∃ (w k : Nat) (a b : Int), vs = [.int w, .str (opV k), .int a, .int b] ∧ 1 ≤ w ∧ w ≤ 64 ∧ k < 7 ∧ Wd w a ∧ Wd w b ∧ ∀ H', Ex H H' → Q (.int (opF w k a b)) H'
end BkG
end
section
namespace PySem
namespace BkErr
open PySem.W PySem.Calls PyProof.Rows PySem.HandSPX
/-! ### an own error with a field: def __init__(self, at): super().__init__(at); self.at = at -/
def iA (p1 p2 : Pos) : Arguments := { posonlyargs := [], args := [{ arg := "self", annotation := none, pos := p1 }, { arg := "at", annotation := none, pos := p2 }], vararg := none, kwonlyargs := [], kw_defaults := [], kwarg := none, defaults := [] }
def iB (p0 p1 p2 p3 p4 p5 q1 q2 q3 q4 : Pos) : List Stmt := [.Expr (.Call (.Attribute (.Call (.Name "super" p0) [] [] p1) "__init__" p2) [.Name "at" p3] [] p4) p5, .Assign [.Attribute (.Name "self" q1) "at" q2] (.Name "at" q3) q4]
def iS : Scope := { kind := .function, names := [(PySem.Str.ofString "self", .local), (PySem.Str.ofString "at", .local), (PySem.Str.ofString "__class__", .free), (PySem.Str.ofString "super", .globalImplicit)], isGenerator := false, isCoroutine := false, more := [] }
/-- what the written part says of the class nm, at C, and of its __init__, at fI -/
structure ErrTxt (P : Program) (K : Frag) (mg : Str → Option Value) (nm : Str) (C fI : Addr) : Prop where
  gC : mg nm = some (.ref C)
  noS : mg "super" = none
  cls : ∃ nm q N bs bm sn sub ab col dd k0 k1 k2 k3 k5, K.lookup C = some (excClassObj nm q C N bs bm true sn sub ab col dd k0 k1 k2 k3 k5 "ValueError.__new__") ∧ refsVE bm = true
  sa : findIn K (.ref C) "__setattr__" = some (some (.builtin "object.__setattr__"))
  ga : findIn K (.ref C) "__getattribute__" = some (some (.builtin "BaseException.__getattribute__"))
  gg : findIn K (.ref C) "__getattr__" = some none
  noN : findIn K (.ref C) "at" = some none
  iC : findIn K (.ref C) "__init__" = some (some (.ref fI))
  tC : typeIn K (.ref fI) = some (.type "function")
  kC : keepIn K (.ref C) = true
  exC : subIn K (.ref C) (.type "BaseException") = some true
  veC : subIn K (.ref C) (.type "ValueError") = some true
  tyC : typeIn K (.ref C) = some (.type "type")
  hdC : hasDictIn K C = true
  te : exmOne K (.ref C) (.ref C) = some true
  mro : mroIn K C (.ref C) = some true
  op : nsIn K cStatics "thirdparty.any" = some none
  sup : ks_superIn K C C "__init__" = some (some (.builtin "ValueError.__init__"))
  fn : ∃ (oc : Value) (od : Option Addr) (qual : Str) (doc pm : Value) (an : Option Addr) (cda cc : Addr) (ct : Value) (osl : Array (Option Value)) (p1' p2' p0 p1 p2 p3 p4 p5 q1 q2 q3 q4 : Pos),
    K.lookup fI = some ⟨oc, od, .func (ksFn "__init__" qual (iA p1' p2') (iB p0 p1 p2 p3 p4 p5 q1 q2 q3 q4) iS .none .none doc pm an (.ref cda) ct cc), osl⟩ ∧ codeIn K (.ref cda) qual = true ∧
    (∃ cl cld csl, K.lookup cc = some ⟨cl, cld, .cell (some (.ref C)), csl⟩) ∧ (p2.endLine == p4.line) = true ∧ ∃ ccl cdd vs ccs file tf, K.lookup cda = some ⟨ccl, cdd, .fields vs, ccs⟩ ∧ vs[2]? = some (.str file tf) ∧ ((P.main.file : Str) == file) = true
  top : (P.main.scope.names.lookup ("super" : Str)).isSome = false
theorem ldC {M : Model} {s : Shared} {name : Str} {scope : Scope} {L a : Addr} {cd : Value} {cc : Addr} {m : Str → Option Value} {x : Str} {pos : Pos} {v : Value} {Q : Value → Shared → Prop} {A : Around} {E : Value → Shared → Prop} (hn : s.heap.Ns L m) (hv : m x = some v) (h : Q v s)
    (hk : scope.kind = .function := by rfl) (hl : (ksEnv name scope L a cd cc).kindOf x = some .local := by rfl) (hd : (x == ("__debug__" : Str)) = false := by decide) :
    wpAny M A (eval (.Name x pos) (ksEnv name scope L a cd cc)) Q E s := wpAny_Name (wpAny_loadName_local hk hl hn hv h) hd
theorem eval_meth {o e : Expr} {name : Str} {apos pos : Pos} {env : Env} (hline : (apos.endLine == pos.line) = true) (he : starEach [e] env = [(false, eval e env)] := by rfl) :
    eval (.Call (.Attribute o name apos) [e] [] pos) env = (do
      let ov ← attributeBase o name env (eval o env)
      standAt apos.atName
      let (f, first) ← holding [ov] (getMethod ov name (do return (← importBound o env).getD true))
      callWith pos f first (backTo pos (starEach [e] env)) []) := by
  have hform : methodCallForm ([e].length + ([] : List Keyword).length) (backTo pos (starEach [e] env)) (backToKw pos (keywordEach [] env)) = true := by rw [he]; rfl
  have hpos : methodCallPos true o env apos pos = pure pos := by unfold methodCallPos; simp [hline]
  show (do
    let ov ← attributeBase o name env (eval o env)
    standAt apos.atName
    methodCall o name apos pos env ov ([e].length + ([] : List Keyword).length) (backTo pos (starEach [e] env)) (backToKw pos (keywordEach [] env))) = _
  unfold methodCall calleeOf
  simp only [hform, hpos, if_true, pure_bind]
  rfl
theorem callWith1 {M : Model} {A : Around} {E : Value → Shared → Prop} {s : Shared} {i : String} {u x : Addr} {pos : Pos} {env : Env} {e : Expr} {rest : List Expr} {Q : Value → Shared → Prop}
    (h : wpAny M A (spliced (backTo pos (starEach (e :: rest) env))) (fun vs s₁ => KxsAt i u x s₁.heap ∧ wpAny M A (call (.ref u) vs) Q E s₁) E s)
    (he : starEach (e :: rest) env = (false, eval e env) :: starEach rest env := by rfl) (hplain : (backTo pos (starEach rest env)).any (·.1) = false := by rfl) :
    wpAny M A (callWith pos (.ref u) [] (backTo pos (starEach (e :: rest) env)) []) Q E s := by
  rw [he] at h ⊢
  refine kxs_callWith (i := i) (x := x) (by show (false || (backTo pos (starEach rest env)).any (·.1)) = false; rw [hplain]; rfl) ?_
  exact evalArgs_plain h
structure InitEnd (h h' : Heap) (x C dx t1 : Addr) (v : Value) : Prop where
  keep : ∀ b o, b ≠ x → h.get? b = some o → h'.get? b = some o
  obj : h'.get? x = some { cls := .ref C, dict := some dx, data := .fields #[.ref t1, .none, .none, .none, .bool false, .none] }
  dbig : h.objs.size ≤ dx
  dne : dx ≠ x
  ns : h'.Ns1 dx (fun y => if y = "at" then some v else none)
structure OwnMade (h h' : Heap) (e C d : Addr) (v : Value) : Prop where
  keep : ∀ b o, h.get? b = some o → h'.get? b = some o
  new : h.objs.size ≤ e
  obj : ∃ oe vs, h'.get? e = some oe ∧ oe.cls = .ref C ∧ oe.dict = some d ∧ oe.data = .fields vs ∧ vs[1]? = some .none ∧ vs[2]? = some .none
  dbig : h.objs.size ≤ d
  dne : d ≠ e
  ns : h'.Ns1 d (fun y => if y = "at" then some v else none)
theorem one_size (v : Value) : [v].length ≤ sizeLine := by
  rw [sizeLine_eq]
  exact (by decide : 1 ≤ 16777216)
section
variable {prog : Program} {w : World} {A : Around} {E : Value → Shared → Prop} {h : Heap} {g : Array GenState} {d : Drawn} {t : Nat} {os : OsState}
variable {nm q : Str} {C N : Addr} {bs bm : List Value} {hdct : Bool} {sn : List Str} {sub : List Value} {ab : Bool} {col : Option Bool} {dd : Option Addr} {k0 k1 k2 k3 k5 : Option Value}
/-- ValueError.__init__ of the object, called -/
theorem call_mw {u e t0 : Addr} {rest : List Value} {Q : Value → Shared → Prop}
    (hC : h.get? C = some (excClassObj nm q C N bs bm hdct sn sub ab col dd k0 k1 k2 k3 k5 "ValueError.__new__")) (he : h.get? e = some (excO C t0)) (hu : h.get? u = some (kxs_mw "ValueError.__init__" e)) (hrest : rest.length ≤ sizeLine)
    (hq : ∀ h' t1, (∀ b o, b ≠ e → h.get? b = some o → h'.get? b = some o) → h'.get? e = some (excO C t1) → h.objs.size ≤ h'.objs.size → Q .none ⟨h', g, d, t, os⟩) :
    wpAny (model prog w) A (call (.ref u) rest) Q E ⟨h, g, d, t, os⟩ := by
  refine wpAny_call (codeAny_of_tree ?_)
  show wpAny _ A.in1 (callAny (.ref u) ⟨rest, []⟩) _ _ _
  simp only [callAny]
  refine wpAny_bind (wpAny_load hu ?_)
  simp only [kxs_mw, show (Value.type "method-wrapper" == Value.type "method" || Value.type "method-wrapper" == Value.type "builtin_function_or_method" || Value.type "method-wrapper" == Value.type "method-wrapper") = true by decide, if_true]
  refine KFB.if_so (by decide) ?_
  refine wpAny_bind (ESX.check_bound F.excBase_ValueError hC he rfl ?_)
  refine wpAny_bind (wpAny_pure (wpAny_pure ?_))
  refine ⟨plainId_quiet F.excBase_ValueError.init.plain _, codeAny_builtin F.excBase_ValueError.initEntry ?_⟩
  refine exc_init_tree (cls := .ref C) (t0 := t0) (dv := none) (c2 := .none) (c3 := .none) (b4 := .bool false) he hrest fun h' k e1 t1 => ?_
  exact hq h' h.objs.size k e1 (Nat.le_of_lt (Heap.lt_size t1))
end
section
variable {prog : Program} {w : World} {A : Around} {E : Value → Shared → Prop} {R : Result → Shared → Prop} {s : Shared} {K : Frag} {mg mb : Str → Option Value} {nm : Str} {C fI : Addr}
theorem err_init (T : ErrTxt prog K mg nm C fI) {x t0 : Addr} {v : Value} (X : K.In s.heap) (hG : s.heap.Ns mainGlobals mg) (hB : s.heap.Ns builtinsNs mb) (hb : ∀ y : Str, y ≠ "__name__" → mb y = bootBuiltins y) (hlim : s.heap.NoLimit) (hx : s.heap.get? x = some (excO C t0)) (hnx : K.lookup x = none) (hroom : A.depth < recursionLimit)
    (hq : ∀ h' tk dx t1, InitEnd s.heap h' x C dx t1 v → R (.ok (.ret .none)) { s with heap := h', toks := tk }) :
    codeAny (model prog w) A (.call (.ref fI) ⟨[.ref x, v], []⟩) R s := by
  obtain ⟨oc, od, qual, doc, pm, an, cda, cc, ct, osl, p1', p2', p0, p1, p2, p3, p4, p5, q1, q2, q3, q4, ho, hcd, ⟨cl, cld, csl, hcell⟩, hline, ccl, cdd, vs, ccs, file, tf, hcode, hvs, hfile⟩ := T.fn
  obtain ⟨nm', q, N, bs, bm, sn, sub, ab, col, dd, k0, k1, k2, k3, k5, hC, hbm⟩ := T.cls
  have hcl : clsIn K C = some { name := nm', bases := bs, mro := .ref C :: bm, ns := N, qualname := q, hasDict := true, slotNames := sn, subclasses := sub, abstract := ab, collection := col, hasDel := false } := by unfold clsIn; rw [hC] <;> rfl
  refine ks_codeAny_call_defAt (fd := ksFn "__init__" qual (iA p1' p2') (iB p0 p1 p2 p3 p4 p5 q1 q2 q3 q4) iS .none .none doc pm an (.ref cda) ct cc) (body := iB p0 p1 p2 p3 p4 p5 q1 q2 q3 q4) (binds := [("self", .ref x), ("at", v)]) hroom (X _ _ ho) rfl hlim (codeRec_of X hcd) rfl
    (BindsTo.of_eq (by first | rfl | with_unfolding_all rfl)) (show ∀ x ∈ iS.names, x.2 ≠ .cell by decide) (by first | decide | (intro y hy; simp only [List.mem_cons, List.not_mem_nil, or_false] at hy; rcases hy with rfl | rfl <;> rfl)) (fun h₁ hns k => ?_) rfl rfl rfl
  have X₁ : K.In h₁ := X.keeps k
  have hx₁ := k _ _ hx
  have I₁ : InstAt h₁ x (excO C t0) C none := ⟨hx₁, rfl, rfl, trivial⟩
  show wpAt _ _ _ (execs (iB p0 p1 p2 p3 p4 p5 q1 q2 q3 q4) (ksEnv qual iS s.heap.objs.size fI (.ref cda) cc)) _ _ _
  refine ks_wpAt_execs_cons (ks_wpAt_Expr_any (ks_wpAt_MethodCall ?_ (eval_meth hline)))
  refine ks_wpAt_super_base (env := ksEnv qual iS s.heap.objs.size fI (.ref cda) cc) rfl rfl rfl rfl (X₁ _ _ ho) rfl rfl rfl (X₁ _ _ hcode) rfl hvs hfile T.top ?_
  refine ks_loadName_global rfl rfl (loadGlobal_builtin (env := ksEnv qual iS s.heap.objs.size fI (.ref cda) cc) (hG.keeps k) T.noS (hB.keeps k) ((hb _ (by decide)).trans (show bootBuiltins "super" = some (.type "super") by first | boot_by_name | rfl | kernel_rfl)) ⟨rfl, ?_⟩)
  refine wpAny_loadName_free rfl rfl rfl ⟨_, X₁ _ _ hcell, rfl⟩ ?_
  refine wpAny_loadName_local rfl rfl hns (v := .ref x) (by first | rfl | with_unfolding_all rfl | kernel_rfl) ?_
  refine ks_wpAny_isType_cls (X₁ _ _ hC) rfl ⟨rfl, ?_⟩
  refine ks_wpAny_call_super (X₁ _ _ hC) rfl I₁.at_ I₁.cls (fun c e => by cases e) (looks_mroIn X₁ T.mro) (fun h₂ hso k₂ => ?_)
  have X₂ : K.In h₂ := X₁.keeps k₂
  have I₂ : InstAt h₂ x (excO C t0) C none := ⟨k₂ _ _ hx₁, rfl, rfl, trivial⟩
  have hsup := T.sup
  unfold ks_superIn at hsup
  rw [hcl] at hsup
  refine kxs_getMethod kxs_ValueError hso (looks_opaque X₂ T.op) (l₀ := .ref C :: bm) (fun A Q E s k q => wpAny_bind ((looks_clsIn X₂ hcl) A _ E s k (wpAny_pure q))) rfl X₂ hsup (I₂.type.andThen (looks_subIn X₂ T.veC)) (ks_ne X₂ I₂ hcl) rfl ?_
  have k₃ : ∀ b o, h₂.get? b = some o → (h₂.push (kxs_mw "ValueError.__init__" x)).get? b = some o := fun b o e => Heap.get?_push_of_some _ e
  have hu : (h₂.push (kxs_mw "ValueError.__init__" x)).get? h₂.objs.size = some (kxs_mw "ValueError.__init__" x) := Heap.get?_push_size _ rfl
  have hns₃ : Heap.Ns (h₂.push (kxs_mw "ValueError.__init__" x)) s.heap.objs.size _ := (hns.keeps k₂).keeps k₃
  generalize hgen : h₂.push (kxs_mw "ValueError.__init__" x) = h₃ at k₃ hu hns₃ ⊢
  have X₃ : K.In h₃ := X₂.keeps k₃
  refine callWith1 (i := "ValueError.__init__") (x := x) (args_cons ?_ rfl)
  refine ldC (v := v) hns₃ (by first | rfl | with_unfolding_all rfl | kernel_rfl) (args_nil ?_)
  refine ⟨hu, call_mw (X₃ _ _ hC) (k₃ _ _ (k₂ _ _ hx₁)) hu (one_size v) fun h₄ t1 k₄ hx₄ hz₄ => ?_⟩
  have hxL : s.heap.objs.size ≠ x := Nat.ne_of_gt (Heap.lt_size hx)
  have X₄ : K.In h₄ := fun a o e => k₄ a o (fun z => by rw [z, hnx] at e; cases e) (X₃ a o e)
  have hns₄ : h₄.Ns s.heap.objs.size (fun y => ([("self", Value.ref x), ("at", v)] : List (Str × Value)).reverse.lookup y) := hns₃.at fun o e => k₄ _ o hxL e
  -- self.at = at
  show wpAt _ _ _ (execs _ _) _ _ _
  refine wpAt_of_wpAny ?_
  refine wpAny_execs_cons (plainObj_wpAny_Assign_Attribute ?_)
  refine ldC (v := v) hns₄ (by first | rfl | with_unfolding_all rfl | kernel_rfl) (ldC (v := .ref x) hns₄ (by first | rfl | with_unfolding_all rfl | kernel_rfl) ?_)
  refine set_plain X₄ (ox := excO C t1) (od := none) ⟨hx₄, rfl, rfl, trivial⟩ T.sa ?_
  refine exc_osa X₄ hx₄ hcl (show refsVE (.ref C :: bm) = true from hbm) rfl T.noN (fun h₅ tk₅ dx k₅ dn dne hx₅ hn₅ => ?_)
  show wpAny _ _ (execs _ _) _ _ _
  have z : s.heap.objs.size < h₄.objs.size := hns₄.lt
  exact wpAny_execs_nil (hq h₅ tk₅ dx t1 ⟨fun b o hb e => k₅ b o hb (k₄ b o hb (k₃ _ _ (k₂ _ _ (k b o e)))), hx₅, Nat.le_of_lt (Nat.lt_of_lt_of_le z dn), dne, hn₅⟩)
theorem err_made (T : ErrTxt prog K mg nm C fI) {v : Value} (X : K.In s.heap) (hG : s.heap.Ns mainGlobals mg) (hB : s.heap.Ns builtinsNs mb) (hb : ∀ y : Str, y ≠ "__name__" → mb y = bootBuiltins y) (hlim : s.heap.NoLimit) (hroom : A.depth + 1 < recursionLimit)
    (hq : ∀ h' tk e d, OwnMade s.heap h' e C d v → R (.ok (.ret (.ref e))) { s with heap := h', toks := tk }) :
    codeAny (model prog w) A (.call (.ref C) ⟨[v], []⟩) R s := by
  obtain ⟨nm', q, N, bs, bm, sn, sub, ab, col, dd, k0, k1, k2, k3, k5, hC, hbm⟩ := T.cls
  obtain ⟨hp, g, dr, tk, os⟩ := s
  have k : ∀ b o, hp.get? b = some o → ((hp.push (kdv_tup [v])).push (excO C hp.objs.size)).get? b = some o := fun b o e => Heap.get?_push_of_some _ (Heap.get?_push_of_some _ e)
  have hget : ((hp.push (kdv_tup [v])).push (excO C hp.objs.size)).get? (hp.objs.size + 1) = some (excO C hp.objs.size) := by heap_get
  have hnx : K.lookup (hp.objs.size + 1) = none := by
    cases e : K.lookup (hp.objs.size + 1) with
    | none => rfl
    | some o =>
      have z : hp.get? (hp.objs.size + 1) = some o := X _ _ e
      exact absurd (Nat.lt_of_succ_lt (Heap.lt_size z)) (Nat.lt_irrefl _)
  refine call_own F.excBase_ValueError (fun X => refsVE_contains X bm hbm) (X _ _ hC) (looks_findIn X T.iC) (fun self => bind_fn X self T.tC) (one_size v) ?_
  refine err_init (s := ⟨(hp.push (kdv_tup [v])).push (excO C hp.objs.size), g, dr, tk, os⟩) T (X.keeps k) (hG.keeps k) (hB.keeps k) hb (hlim.keeps k) hget hnx ?_ fun h' tk' dx t1 ⟨k', hx, dn, dne, hns⟩ => ?_
  · show A.depth + 1 < recursionLimit
    exact hroom
  · have old : ∀ b o, hp.get? b = some o → h'.get? b = some o := fun b o e => k' b o (Nat.ne_of_lt (Nat.lt_succ_of_lt (Heap.lt_size e))) (k b o e)
    have z : hp.objs.size + 1 + 1 ≤ dx := by
      first
        | (simpa only [Heap.size_push] using dn)
        | exact dn
        | (have q := dn; rw [Heap.size_push, Heap.size_push] at q; exact q)
    exact ⟨rfl, hq h' tk' (hp.objs.size + 1) dx ⟨old, Nat.le_succ _, ⟨_, _, hx, rfl, rfl, rfl, rfl, rfl⟩, Nat.le_trans (Nat.le_trans (Nat.le_succ _) (Nat.le_succ _)) z, dne, hns⟩⟩
end
end BkErr
end PySem
namespace BkG
open PySem PySem.Spec PyProof.Rows L2
theorem relO_at {v : V} {v' : Value} (r : RelV v v') (f : Str) : RelO (List.lookup f [(("at" : Str), v)]) (if f = "at" then some v' else none) := by
  by_cases hw : f = "at"
  · subst hw
    rw [if_pos rfl]
    have q : List.lookup ("at" : Str) [(("at" : Str), v)] = some v := by simp [List.lookup]
    rw [q]
    exact r
  · rw [if_neg hw]
    have qw : (f == ("at" : Str)) = false := by simpa using hw
    have q2 : List.lookup f [(("at" : Str), v)] = none := by simp [List.lookup, qw]
    rw [q2]
    trivial
section
variable {X : Cx} {nm : Str} {C fI : Addr}
/-- nm(e) -/
def tMkErr (C : Addr) (ta : TA) : L2.St → Hp → XK → Prop := fun σ H Q => ta σ H fun vs H1 => ∃ v, vs = [v] ∧ ∀ d, H1 d = none → Q (.ref C) (some d) (upd H1 d (.xd [(("at" : Str), v)]))
theorem pmk_errN {a : Expr} {ta : TA} {p pos : Pos} {k : Nat} (T : PySem.BkErr.ErrTxt X.prog X.K X.mg nm C fI) (hr : Room k X.A) (ha : PA X [a] ta) (hg : Gl X nm := by rfl) (hnd : (nm == ("__debug__" : Str)) = false := by decide)
    (he : starEach (a :: []) X.env = (false, eval a X.env) :: starEach [] X.env := by rfl) (hpl : (backTo pos (starEach [] X.env)).any (·.1) = false := by rfl) :
    L2N.PMk X (.Call (.Name nm p) [a] [] pos) (tMkErr C ta) := by
  intro pins s σ H Q I h
  refine wpAny_Call_Name_kw (ld_glob I hg T.gC ?_ hnd)
  refine PySem.W.callWith_K (h₀ := X.base) I.ok.mod.kin T.kC (thn (ha.run pos pins s σ H _ I h) fun us s1 hh => ?_) he hpl
  obtain ⟨vs, H1, I1, r1, v, ev, q1⟩ := hh
  subst ev
  refine ⟨I1.kIn, ?_⟩
  cases r1 with
  | cons rv rn =>
    rename_i v' us'
    cases rn
    show wpAny _ _ (call (.ref C) [v']) _ _ _
    have hlim := I1.nolimit
    obtain ⟨mb, hb1, hb2⟩ := I1.mod.blt
    have hG := I1.mod.glob.keeps I1.bk
    have hB := hb1.keeps I1.bk
    have hK := I1.kIn
    obtain ⟨hp, g, dr, tk, os⟩ := s1
    refine wpAny_call (PySem.BkErr.err_made T hK hG hB hb2 hlim (by have := hr.dp; omega) fun h' tk' e d M => ?_)
    show L2N.MkP X pins σ Q (.ref e) ⟨h', g, dr, tk', os⟩
    obtain ⟨oe, fv, hoe, hc, hd, hdat, h1, h2⟩ := M.obj
    have hns := M.ns
    obtain ⟨G', g1, g2⟩ := restrict h' fun b => decide (b ≠ e)
    have gk : ∀ b, b ≠ e → G'.get? b = h'.get? b := fun b hb => g1 b (decide_eq_true hb)
    have ge : G'.get? e = none := g2 e (by simp)
    have old : ∀ b o, hp.get? b = some o → G'.get? b = some o := fun b o q => (gk b (Nat.ne_of_lt (Nat.lt_of_lt_of_le (Heap.lt_size q) M.new))).trans (M.keep b o q)
    have ob : ObjOk X.prog X.w (upd H1 d (.xd [(("at" : Str), v)])) G' d (.xd [(("at" : Str), v)]) :=
      ⟨_, hns.at (fun o q => (gk d M.dne).trans q), fun f => relO_at rv f⟩
    have J : Inv X pins σ (upd H1 d (.xd [(("at" : Str), v)])) ⟨G', g, dr, tk', os⟩ := I1.laid (t' := tk') old M.dbig ob
    refine ⟨e, oe, fv, ⟨G', g, dr, tk', os⟩, _, .ref C, some d, rfl, J, fun b o q => ?_, ge, hoe, ⟨hc, hd, fun ws q => by rw [hdat] at q; cases q; exact h2⟩, hdat, h1, ?_, rfl, I1.bare, raises_own T.exC T.tyC, q1 d (I1.hok.fresh M.dbig)⟩
    · by_cases hb : b = e
      · have q' : G'.get? b = some o := q
        rw [hb, ge] at q'; cases q'
      · exact (gk b hb).symm.trans q
    · rw [upd_ne (Ne.symm M.dne)]
      exact I1.hok.fresh M.new
theorem pmk_err {a : Expr} {ta : TA} {p pos : Pos} {k : Nat} (T : PySem.BkErr.ErrTxt X.prog X.K X.mg nm C fI) (hr : Room k X.A) (ha : PA X [a] ta) (hg : Gl X nm := by rfl) (hnd : (nm == ("__debug__" : Str)) = false := by decide)
    (he : starEach (a :: []) X.env = (false, eval a X.env) :: starEach [] X.env := by rfl) (hpl : (backTo pos (starEach [] X.env)).any (·.1) = false := by rfl) :
    PMk X (.Call (.Name nm p) [a] [] pos) (tMkErr C ta) := fun pins s σ H Q I q => thn (pmk_errN T hr ha hg hnd he hpl pins s σ H Q I q) fun u s' ⟨a, oe, vs, sI, G, cls, d, e1, J, k, n, g, z, r⟩ => ⟨a, oe, vs, sI, G, cls, d, e1, J, k, n, g, z.zc, r⟩
/-- raise nm(e) -/
def tRaiseErr (C : Addr) (W : WX) (ta : TA) : TS := fun _ σ H => tMkErr C ta σ H fun cls d H' => W cls d σ H'
theorem ps_raiseErr {a : Expr} {ta : TA} {W : WX} {p pos pos2 : Pos} {k : Nat} (hc : X.calm = true) (T : PySem.BkErr.ErrTxt X.prog X.K X.mg nm C fI) (hr : Room k X.A) (tk : Takes X W) (ha : PA X [a] ta) (hg : Gl X nm := by rfl) (hnd : (nm == ("__debug__" : Str)) = false := by decide)
    (he : starEach (a :: []) X.env = (false, eval a X.env) :: starEach [] X.env := by rfl) (hpl : (backTo pos (starEach [] X.env)).any (·.1) = false := by rfl) :
    PS X (.Raise (some (.Call (.Name nm p) [a] [] pos)) none pos2) (tRaiseErr C W ta) := ps_raise hc tk (pmk_err T hr ha hg hnd he hpl)
/-- wrong.at, wrong the exception that the suite holds (at a; its class cls, its dict d) -/
def tAtErr (C : Addr) (a : Addr) (cls : Value) (d : Option Addr) (te : TE) : TE := fun σ H Q => te σ H fun x H1 => x = .ref a ∧ cls = .ref C ∧ ∃ (dd : Addr) (v : V), d = some dd ∧ H1 dd = some (.xd [(("at" : Str), v)]) ∧ Q v H1
end
end BkG
end
section
namespace BkG
open PySem PySem.Spec PyProof.Rows L2
/-! ### several clauses, each with a name: except X as n -/
def dAs (i : Nat) (D : Ends) : Ends := { nx := fun σ' H' => D.nx (σ'.set i none) H', rt := D.rt, bk := fun σ' H' => D.bk (σ'.set i none) H', ct := fun σ' H' => D.ct (σ'.set i none) H' }
def wManyA (K : PySem.W.Frag) (n : Nat) (Wout : WX) (D : Ends) : List (Value × Nat × (Addr → Value → Option Addr → TS)) → WX
  | [] => Wout
  | (c, i, ts) :: r => fun cls d σ H => ∃ b, PySem.W.exmOne K cls c = some b ∧ (b = true → ∀ a, H a = none → σ.length = n → ts a cls d (dAs i D) (σ.set i (some (.ref a))) H) ∧ (b = false → wManyA K n Wout D r cls d σ H)
inductive HdsA (X : Cx) : List ExceptHandler → List (Value × Nat × (Addr → Value → Option Addr → TS)) → Prop
  | nil : HdsA X [] []
  | cons {x n : Str} {i : Nat} {c : Value} {ts : Addr → Value → Option Addr → TS} {b₀ : Stmt} {suite : List Stmt} {np pos' : Pos} {hds : List ExceptHandler} {l : List (Value × Nat × (Addr → Value → Option Addr → TS))} (hi : X.N[i]? = some n) (hln : X.env.kindOf n = some .local) (hc : Names X x c)
      (hsu : ∀ (a : Addr) (oe : Obj) (cls : Value) (d : Option Addr) (pn : List (Addr × Obj)), Zc cls d oe → (∃ vs, oe.data = .fields vs) → PSs (X.suite a ((a, oe) :: pn)) (b₀ :: suite) (ts a cls d)) (r : HdsA X hds l) :
      HdsA X (.ExceptHandler (some (.Name x np)) (some n) (b₀ :: suite) pos' :: hds) ((c, i, ts) :: l)
section
variable {X : Cx} {body : List Stmt} {h₀ : ExceptHandler} {hds : List ExceptHandler} {l : List (Value × Nat × (Addr → Value → Option Addr → TS))} {pos : Pos} {tb : WX → TS} {Wout : WX}
theorem ps_try_manyA (hs : X.stack = X.env :: X.outer) (hf : X.env.frame = some X.env.locals) (hN : X.N.Nodup) (tk : Takes X Wout)
    (hb : ∀ (W : WX) (pn : List (Addr × Obj)) (xe : Value → Shared → Prop), Takes (X.tr pn xe) W → PassesOwn (model X.prog X.w) X.A X.env xe → PSs (X.tr pn xe) body (tb W))
    (hh : HdsA X (h₀ :: hds) l) : PS X (.Try body (h₀ :: hds) [] [] pos) (fun D σ H => tb (wManyA X.K X.N.length Wout D l) D σ H) := by
  refine ⟨fun pins s σ H D I h => ?_⟩
  have ok := I.ok
  have hfr : X.A.frames = some (X.env :: X.outer) := by rw [ok.frames, hs]
  refine wpAny_Try_except ?_
  refine wpAny_mono ((hb (wManyA X.K X.N.length Wout D l) (X.pn ++ pins) (fun e s₁ => wpAny (model X.prog X.w) X.A (noteFrame e X.env) (fun _ s₂ => wpAny (model X.prog X.w) X.A (setFlight e none) (fun _ s₃ =>
    wpAny (model X.prog X.w) X.A (handleBy e X.env (h₀ :: hds)) (SP X pins D) X.xe s₃) X.xe s₂) X.xe s₁) (fun u s' xx => ?_) PassesOwn.looking).run [] s σ H D (I.toTry _) h) (fun f s1 hsp => ?_) (fun e s1 he => he)
  · obtain ⟨a, B, sI, pins', σ', H', cls, d, rfl, J', nb, up, sky, na, os, ag, w⟩ := xx
    have J : Inv X pins σ' H' sI := J'.ofTry ok
    have sky' : Sky B (X.env :: X.outer) a (Zc cls d) X.env.locals s'.heap := by rw [← hs]; exact sky
    show wpAny (model X.prog X.w) X.A (noteFrame (.ref a) X.env) _ _ _
    refine Sky.land Zc.steady hfr hf sky' fun h3 fl3 up3 => ?_
    have J3 : Inv X pins σ' H' { s' with heap := h3 } := J.landed nb fl3.1 (up.trans up3) os ag
    obtain ⟨oe3, vs3, he3, hz3, hd3⟩ := fl3.there
    have notFr : ∀ {h : Heap} {o : Obj} {vs : Array Value}, h.FunFrames B (X.env :: X.outer) → h.get? a = some o → o.data = .fields vs → a ∉ frs (X.env :: X.outer) := fun {h o vs} ff e dd hm => by
      obtain ⟨_, o', e', hnf⟩ := ff.mem hm
      rw [e] at e'; cases e'
      exact hnf _ dd
    have nfr := notFr fl3.2.2.1 he3 hd3
    have nL : a ≠ X.env.locals := fun z => nfr (List.mem_filterMap.mpr ⟨X.env, List.mem_cons_self, by rw [hf, z]⟩)
    have nF : a ∉ X.fs := fun hm => by
      obtain ⟨e, he, q⟩ := List.mem_filterMap.mp hm
      exact nfr (List.mem_filterMap.mpr ⟨e, List.mem_cons_of_mem _ he, q⟩)
    have S3 := J3.suite he3 hd3 na nL nF
    have go : ∀ {hds' : List ExceptHandler} {l' : List (Value × Nat × (Addr → Value → Option Addr → TS))}, HdsA X hds' l' → wManyA X.K X.N.length Wout D l' cls d σ' H' →
        wpAny (model X.prog X.w) X.A (handleBy (.ref a) X.env hds') (SP X pins D) X.xe { s' with heap := h3 } := by
      intro hds' l' hk
      induction hk with
      | nil =>
        intro w
        refine wpAny_handleBy_nil ?_
        obtain ⟨k1, k2, k3, oe, vs, T, oT, ts', he, hz, hd, h1, hr⟩ := id fl3
        unfold PySem.passOn
        refine wpAny_bind (wpAny_field he hd h1 ?_)
        rw [if_neg (show ¬ ((Value.ref T == Value.none) = true) from by simp)]
        have fin : wpAny (model X.prog X.w) X.A (setFlight (.ref a) X.env.frame) (fun _ s4 => wpAny (model X.prog X.w) X.A (throw (.ref a) : Sem Flow) (SP X pins D) X.xe s4) X.xe { s' with heap := h3 } := by
          rw [hf]
          refine HandSPX.setFlight_upZ fl3 fun h4 hh4 up4 => wpAny_throw (tk _ _ ?_)
          exact ⟨a, B, sI, pins, σ', H', cls, d, rfl, J, nb, (up.trans up3).trans up4, .inr (.inr (by rw [hs]; exact hh4)), na, os, ag, w⟩
        first
          | exact wpAny_bind (wpAny_pure (wpAny_bind fin))
          | exact wpAny_bind fin
      | @cons x n i c ts b₀ suite np pos' hds2 l2 hi hln hc hsu r ih =>
        intro w
        obtain ⟨b, hb1, hyes, hno⟩ := w
        have hloc : Loc X.env.scope n := .inl hln
        refine wpAny_handleBy_cons (codeAny_handlers_test ?_) (by intro q; cases q)
        have LT : PySem.W.Looks (model X.prog X.w) h3 (typeOf (.ref a)) cls := fun A Q E s k q => wpAny_typeOf_ref (k _ _ he3) (by rw [hz3.1]; exact q)
        have LM := PySem.W.exm_one (M := model X.prog X.w) (J3.kIn) LT hb1
        have test : ∀ {Q : Value → Shared → Prop} {E : Value → Shared → Prop}, Q c { s' with heap := h3 } → wpAny (model X.prog X.w) (X.A.mark (some (.ref a))) (eval (.Name x np) X.env) Q E { s' with heap := h3 } := fun {Q E} q => by
          obtain ⟨hg, hdbg, hm | ⟨hm, hv, hnn⟩⟩ := hc
          · exact ld_glob (X := X.suite a ((a, oe3) :: (X.pn ++ pins))) S3 hg hm q hdbg
          · exact ld_blt (X := X.suite a ((a, oe3) :: (X.pn ++ pins))) S3 hg hm hv q hnn hdbg
        refine test (LM.here ?_)
        cases b with
        | true =>
          refine codeAny_handlers_suite_as ?_
          refine HandSPX.lands_againZ fl3 fun h4 fl4 up4 => ?_
          have J4 : Inv X pins σ' H' { s' with heap := h4 } := J.landed nb fl4.1 ((up.trans up3).trans up4) os ag
          obtain ⟨oe4, vs4, he4, hz4, hd4⟩ := fl4.there
          have S4 := J4.suite he4 hd4 na nL nF
          refine store_ok (X := X.suite a ((a, oe4) :: (X.pn ++ pins))) (v := .ref a) S4 hN hi hloc rfl (fun s5 S5 => ?_) (.inr hln)
          refine wpAny_mono ((hsu a oe4 cls d (X.pn ++ pins) hz4 ⟨_, hd4⟩).run [] s5 _ H' _ S5 (hyes rfl a na J.len)) (fun f s6 hsp => ?_) (fun _ _ z => False.elim z)
          have end_ : ∀ {σ6 : L2.St} {H6 : Hp} {Q : Shared → Prop}, Inv (X.suite a ((a, oe4) :: (X.pn ++ pins))) [] σ6 H6 s6 → (∀ s7, Inv X pins (σ6.set i none) H6 s7 → Q s7) →
              wpAny (model X.prog X.w) X.A (do bindName X.env n .none; unbindBehindTheSuite X.env n pos') (fun _ s7 => Q s7) X.xe s6 := fun {σ6 H6 Q} S6 hq => gone_ok (S6.unsuite ok) hN hi hln hq
          cases f with
          | next =>
            obtain ⟨σ6, H6, S6, q6⟩ := hsp
            exact end_ S6 fun s7 J7 => ⟨_, _, J7, q6⟩
          | brk =>
            obtain ⟨σ6, H6, S6, q6⟩ := hsp
            exact end_ S6 fun s7 J7 => ⟨_, _, J7, q6⟩
          | cont =>
            obtain ⟨σ6, H6, S6, q6⟩ := hsp
            exact end_ S6 fun s7 J7 => ⟨_, _, J7, q6⟩
          | ret u =>
            obtain ⟨v6, σ6, H6, S6, r6, q6⟩ := hsp
            exact end_ S6 fun s7 J7 => ⟨_, _, _, J7, r6, q6⟩
        | false =>
          show wpAny _ X.A (handleBy (.ref a) X.env hds2) _ _ _
          exact ih (hno rfl)
    exact go hh w
  · cases f with
    | next =>
      obtain ⟨σ', H', J', q⟩ := hsp
      exact wpAny_execs_nil ⟨σ', H', J'.ofTry ok, q⟩
    | brk =>
      obtain ⟨σ', H', J', q⟩ := hsp
      exact ⟨σ', H', J'.ofTry ok, q⟩
    | cont =>
      obtain ⟨σ', H', J', q⟩ := hsp
      exact ⟨σ', H', J'.ofTry ok, q⟩
    | ret u =>
      obtain ⟨v, σ', H', J', r, q⟩ := hsp
      exact ⟨v, σ', H', J'.ofTry ok, r, q⟩
end
/-- wrong.at, wrong the exception that the suite holds (at a; its class cls, its dict d), of a class with that field -/
def tAtA (P : Program) (K : PySem.W.Frag) (mg : Str → Option Value) (a : Addr) (cls : Value) (d : Option Addr) (te : TE) : TE := fun σ H Q => te σ H fun x H1 => x = .ref a ∧ ∃ (nm : Str) (C fI dd : Addr) (v : V), PySem.BkErr.ErrTxt P K mg nm C fI ∧ cls = .ref C ∧ d = some dd ∧ H1 dd = some (.xd [(("at" : Str), v)]) ∧ Q v H1
section
variable {X : Cx}
theorem pe_atErr {a : Addr} {oe : Obj} {cls : Value} {d : Option Addr} {pn : List (Addr × Obj)} {e : Expr} {te : TE} {pos : Pos} (hz : Zc cls d oe) (hf : ∃ vs, oe.data = .fields vs) (he : PE (X.suite a ((a, oe) :: pn)) e te)
    (hb : attributeBase e "at" X.env (eval e X.env) = eval e X.env := by rfl) :
    PE (X.suite a ((a, oe) :: pn)) (.Attribute e "at" pos) (tAtA X.prog X.K X.mg a cls d te) := by
  refine ⟨fun pins s σ H Q I h => ?_⟩
  refine attr_of hb (thn (he.run pins s σ H _ I h) fun u s1 hh => ?_)
  obtain ⟨x, H1, I1, rx, ex, nm, C, fI, dd, v, T, ec, ed, ea, q⟩ := hh
  subst ex
  obtain rfl : u = Value.ref a := rx
  subst ec
  subst ed
  obtain ⟨ha, _⟩ := I1.pin (a, oe) (List.mem_append_left _ List.mem_cons_self)
  obtain ⟨vs, hd⟩ := hf
  have hx : ObjOk X.prog X.w H1 s1.heap dd (.xd [(("at" : Str), v)]) := I1.hok dd _ ea
  obtain ⟨mA, hns, hr⟩ := hx
  obtain ⟨od, ho, hl⟩ := lookIn_ns hns
  have l : List.lookup ("at" : Str) [(("at" : Str), v)] = some v := by simp [List.lookup]
  obtain ⟨u, hu, ru⟩ := RelO.some_of (v := v) (o := mA "at") (by rw [← l]; exact hr "at")
  have J : PySem.W.InstAt s1.heap a oe C (some od) := ⟨ha, hz.1, by unfold PySem.W.notCls; rw [hd] <;> rfl, by rw [hz.2]; exact ho⟩
  exact HandSPX.exc_get I1.kIn J T.ga T.gg T.exC (PySem.W.findObj_own T.hdC T.noN rfl (by rw [hl, hu])) (handed_of ru) ⟨v, H1, I1.tok _, ru, q⟩
end
end BkG
end
section
namespace BkG
open PySem PySem.Spec PyProof.Rows L2
/-! ### defs called by keywords alone, defs that may raise -/
structure CalK (P : Program) (w : World) (K : PySem.W.Frag) (mg : Str → Option Value) (base : Heap) (k : Nat) (x : Str) (ps : List Str) (sp : Sp) : Prop where
  ex : ∃ f fd, FnOk P w K mg base CX0 k f fd ps sp ∧ mg x = some (.ref f) ∧ PySem.W.keepIn K (.ref f) = true ∧ Binds K fd ps [] ∧ KBn K fd ps 0 ps (fun _ ws => ws) (fun _ zs => zs)
structure CalR (P : Program) (w : World) (K : PySem.W.Frag) (mg : Str → Option Value) (base : Heap) (k : Nat) (x : Str) (ps : List Str) (sp : Sp) : Prop where
  ex : ∃ f fd, FnOk P w K mg base (L2.CX P w) k f fd ps sp ∧ mg x = some (.ref f) ∧ PySem.W.keepIn K (.ref f) = true ∧ Binds K fd ps [] ∧ KBn K fd ps 0 ps (fun _ ws => ws) (fun _ zs => zs)
section
variable {P : Program} {w : World} {K : PySem.W.Frag} {mg : Str → Option Value} {base : Heap}
theorem CalK.cal {k : Nat} {x : Str} {ps : List Str} {sp : Sp} (c : CalK P w K mg base k x ps sp) : Cal P w K mg base k x sp := let ⟨f, fd, F, hm, kp, b, _⟩ := c.ex; ⟨f, fd, ps, F, hm, kp, b⟩
theorem Fn.calK {x : Str} {st : Stmt} {N ps : List Str} {k : Nat} {sp : Sp} (F : Fn K mg x st ps) (S : FnScope N ps (defScope st)) (len : ∀ vs H Q E, sp vs H Q E → vs.length = ps.length)
    (hbody : ∀ (f : Addr) (cdv : Value) (A : Around) (outer : List Env) (s : Shared) (H : Hp) (vs : List V) (Q : VK) (E : XK), Room k (A.deeper (envOfC x (defScope st) s.heap.objs.size f cdv)) → sp vs H Q E →
      ∃ t, PSs (cxOf CX0 P w K mg base N x (defScope st) f cdv A outer s H E).nox (defBody st) t ∧ t { nx := fun _ H' => Q .non H', rt := Q } (start N vs) H) : CalK P w K mg base (k + 1) x ps sp := by
  obtain ⟨f, fd, F1, hm, hb, hk⟩ := F.ex
  exact ⟨f, fd, F1.ok S len (hbody f), hm, F1.kp, hb, hk⟩
theorem Fn.calR {x : Str} {st : Stmt} {N ps : List Str} {k : Nat} {sp : Sp} (F : Fn K mg x st ps) (S : FnScope N ps (defScope st)) (len : ∀ vs H Q E, sp vs H Q E → vs.length = ps.length)
    (hbody : ∀ (f : Addr) (cdv : Value) (A : Around) (outer : List Env) (s : Shared) (H : Hp) (vs : List V) (Q : VK) (E : XK), Room k (A.deeper (envOfC x (defScope st) s.heap.objs.size f cdv)) → sp vs H Q E →
      ∃ t, PSs (cxOf (L2.CX P w) P w K mg base N x (defScope st) f cdv A outer s H E) (defBody st) t ∧ t { nx := fun _ H' => Q .non H', rt := Q } (start N vs) H) : CalR P w K mg base (k + 1) x ps sp := by
  obtain ⟨f, fd, F1, hm, hb, hk⟩ := F.ex
  exact ⟨f, fd, F1.okX S len (hbody f), hm, F1.kp, hb, hk⟩
end
def tCallK (m : Nat) (sp : Sp) (E : XK) (tk : TA) : TE := fun σ H Q => tk σ H fun zs H2 => zs.length = m ∧ sp zs H2 Q E
section
variable {X : Cx} {CX : CXT} {k j : Nat} {f : Addr} {fd : FuncData} {ps : List Str} {sp : Sp} {E : XK} {W : WX} {x : Str} {p pos : Pos} {e : Expr} {es : List Expr} {kws : List Keyword} {t tk : TA}
/-- f(k = v, ..), all in the parameters' order -/
theorem pe_callK0 (F : FnOk X.prog X.w X.K X.mg X.base CX k f fd ps sp) (hr : Room k X.A) (hg : Gl X x) (hm : X.mg x = some (.ref f)) (hk : PySem.W.keepIn X.K (.ref f) = true) (hb : KBn X.K fd ps 0 ps (fun _ ws => ws) (fun _ zs => zs)) (hx : Passes CX X E)
    (hkw : PK X kws tk) (hall : (backToKw pos (keywordEach kws X.env)).all (·.1.isSome) = true := by rfl) (hks : (backToKw pos (keywordEach kws X.env)).filterMap (·.1) = ps := by rfl)
    (hdb : (x == ("__debug__" : Str)) = false := by decide)
    (hpl : ((backTo pos (starEach [] X.env)).any (·.1) || (backToKw pos (keywordEach kws X.env)).any (·.1.isNone)) = false := by rfl) :
    PE X (.Call (.Name x p) [] kws pos) (tCallK ps.length sp E tk) := by
  refine ⟨fun pins s σ H Q I h => ?_⟩
  refine wpAny_Call_Name_kw (ld_glob I hg hm ?_ hdb)
  refine PySem.W.callWith_KW0 (h₀ := X.base) I.ok.mod.kin hk hall ?_ hpl
  refine thn (hkw.run pos pins s σ H _ I h) fun ws s2 ⟨zs, H2, I2, rz, l2, q2⟩ => ⟨I2.kIn, ?_⟩
  rw [hks]
  exact run_fnN (us := []) (vs := []) F hr hb hx I2 .nil rz rfl l2 q2
theorem pe_ck {x : Str} (c : CalK X.prog X.w X.K X.mg X.base k x ps sp) (hr : Room j X.A) (hk : k ≤ j) (hg : Gl X x) (hkw : PK X kws tk)
    (hall : (backToKw pos (keywordEach kws X.env)).all (·.1.isSome) = true := by rfl) (hks : (backToKw pos (keywordEach kws X.env)).filterMap (·.1) = ps := by rfl) (hdb : (x == ("__debug__" : Str)) = false := by decide)
    (hpl : ((backTo pos (starEach [] X.env)).any (·.1) || (backToKw pos (keywordEach kws X.env)).any (·.1.isNone)) = false := by rfl) : PE X (.Call (.Name x p) [] kws pos) (tCallK ps.length sp E0 tk) := by
  obtain ⟨f, fd, F, hm, kp, _, b⟩ := c.ex
  exact pe_callK0 F (hr.mono hk) hg hm kp b pass0 hkw hall hks hdb hpl
/-- a def that may raise, called: what it lets out is taken -/
theorem pe_cr (c : CalR X.prog X.w X.K X.mg X.base k x ps sp) (hr : Room j X.A) (hk : k ≤ j) (hg : Gl X x) (tk : Takes X W) (hW : ∀ cls d σ H, E cls d H → W cls d σ H) (ha : PA X (e :: es) t)
    (hdb : (x == ("__debug__" : Str)) = false := by decide) (he : starEach (e :: es) X.env = (false, eval e X.env) :: starEach es X.env := by rfl) (hpl : (backTo pos (starEach es X.env)).any (·.1) = false := by rfl) :
    PE X (.Call (.Name x p) (e :: es) [] pos) (tCall sp [] E t) := by
  obtain ⟨f, fd, F, hm, kp, b, _⟩ := c.ex
  exact pe_call F (hr.mono hk) hg hm kp b .nil (passes_call tk hW) ha hdb he hpl
theorem pe_crk (c : CalR X.prog X.w X.K X.mg X.base k x ps sp) (hr : Room j X.A) (hk : k ≤ j) (hg : Gl X x) (tk' : Takes X W) (hW : ∀ cls d σ H, E cls d H → W cls d σ H) (hkw : PK X kws tk)
    (hall : (backToKw pos (keywordEach kws X.env)).all (·.1.isSome) = true := by rfl) (hks : (backToKw pos (keywordEach kws X.env)).filterMap (·.1) = ps := by rfl) (hdb : (x == ("__debug__" : Str)) = false := by decide)
    (hpl : ((backTo pos (starEach [] X.env)).any (·.1) || (backToKw pos (keywordEach kws X.env)).any (·.1.isNone)) = false := by rfl) : PE X (.Call (.Name x p) [] kws pos) (tCallK ps.length sp E tk) := by
  obtain ⟨f, fd, F, hm, kp, _, b⟩ := c.ex
  exact pe_callK0 F (hr.mono hk) hg hm kp b (passes_call tk' hW) hkw hall hks hdb hpl
end
/-- nothing is let out -/
theorem passN {X : Cx} : Passes (L2.CX X.prog X.w) X E0 := fun _ _ _ _ _ _ _ c => by
  obtain ⟨_, _, _, _, _, _, _, _, _, _, _, _, h⟩ := c
  exact h.elim
theorem pe_cn {X : Cx} {k j : Nat} {ps : List Str} {sp : Sp} {x : Str} {p pos : Pos} {e : Expr} {es : List Expr} {t : TA} (c : CalR X.prog X.w X.K X.mg X.base k x ps sp) (hr : Room j X.A) (hk : k ≤ j) (hg : Gl X x) (ha : PA X (e :: es) t)
    (hdb : (x == ("__debug__" : Str)) = false := by decide) (he : starEach (e :: es) X.env = (false, eval e X.env) :: starEach es X.env := by rfl) (hpl : (backTo pos (starEach es X.env)).any (·.1) = false := by rfl) :
    PE X (.Call (.Name x p) (e :: es) [] pos) (tCall sp [] E0 t) := by
  obtain ⟨f, fd, F, hm, kp, b, _⟩ := c.ex
  exact pe_call F (hr.mono hk) hg hm kp b .nil passN ha hdb he hpl
theorem pe_cnk {X : Cx} {k j : Nat} {ps : List Str} {sp : Sp} {x : Str} {p pos : Pos} {kws : List Keyword} {tk : TA} (c : CalR X.prog X.w X.K X.mg X.base k x ps sp) (hr : Room j X.A) (hk : k ≤ j) (hg : Gl X x) (hkw : PK X kws tk)
    (hall : (backToKw pos (keywordEach kws X.env)).all (·.1.isSome) = true := by rfl) (hks : (backToKw pos (keywordEach kws X.env)).filterMap (·.1) = ps := by rfl) (hdb : (x == ("__debug__" : Str)) = false := by decide)
    (hpl : ((backTo pos (starEach [] X.env)).any (·.1) || (backToKw pos (keywordEach kws X.env)).any (·.1.isNone)) = false := by rfl) : PE X (.Call (.Name x p) [] kws pos) (tCallK ps.length sp E0 tk) := by
  obtain ⟨f, fd, F, hm, kp, _, b⟩ := c.ex
  exact pe_callK0 F (hr.mono hk) hg hm kp b passN hkw hall hks hdb hpl
/-! ### what is promised of an error -/
def ErrTo (P : Program) (K : PySem.W.Frag) (mg : Str → Option Value) (E : XK) (nm : Str) (v : V) (H : Hp) : Prop :=
  ∀ (C fI d : Addr) (H' : Hp), PySem.BkErr.ErrTxt P K mg nm C fI → H d = none → Ex H H' → H' d = some (.xd [(("at" : Str), v)]) → E (.ref C) (some d) H'
theorem ErrTo.ex {P : Program} {K : PySem.W.Frag} {mg : Str → Option Value} {E : XK} {nm : Str} {v : V} {H H1 : Hp} (h : ErrTo P K mg E nm v H) (e : Ex H H1) : ErrTo P K mg E nm v H1 := fun C fI d H' T hd e' hx => h C fI d H' T (e.fresh hd) (e.trans e') hx
section
variable {X : Cx} {σ : L2.St} {H : Hp} {C : Addr} {W : WX} {ta : TA} {D : Ends}
def aErr (C : Addr) (W : WX) (σ : L2.St) : List V → Hp → Prop := fun vs H1 => ∃ v, vs = [v] ∧ ∀ d, H1 d = none → W (.ref C) (some d) σ (upd H1 d (.xd [(("at" : Str), v)]))
theorem w_raiseErr (h : ta σ H (aErr C W σ)) : tRaiseErr C W ta D σ H := h
theorem a_err {P : Program} {K : PySem.W.Frag} {mg : Str → Option Value} {E : XK} {nm : Str} {v : V} {fI : Addr} (T : PySem.BkErr.ErrTxt P K mg nm C fI) (h : ErrTo P K mg E nm v H) : aErr C (fun cls d _ H => E cls d H) σ [v] H := ⟨v, rfl, fun d hd => h C fI d _ T hd (Ex.new hd) upd_same⟩
def kCallK (m : Nat) (sp : Sp) (E : XK) (Q : VK) : List V → Hp → Prop := fun zs H2 => zs.length = m ∧ sp zs H2 Q E
theorem w_callK {m : Nat} {sp : Sp} {E : XK} {tk : TA} {Q : VK} (h : tk σ H (kCallK m sp E Q)) : tCallK m sp E tk σ H Q := h
theorem k_callK {m : Nat} {sp : Sp} {E : XK} {Q : VK} {zs : List V} (l : zs.length = m) (h : sp zs H Q E) : kCallK m sp E Q zs H := ⟨l, h⟩
end
end BkG
end
section
namespace BkG
open PySem PySem.Spec L2
/-! ### what is refused, in which order -/
def widOf : PyData → Nat
  | .int n => n.toNat
  | _ => 0
/-- none: nothing wrong; k: InvalidWord(k) -/
def chkWs (d : PyData) (ds : List PyData) : Option Nat := if isWid d = true then (ds.findIdx? fun e => !isWord (widOf d) e).map (· + 1) else some 0
theorem isWid_int {d : PyData} (h : isWid d = true) : ∃ w : Nat, d = .int w ∧ 1 ≤ w ∧ w ≤ 64 := by
  cases d with
  | int n =>
    simp only [isWid, decide_eq_true_eq] at h
    exact ⟨n.toNat, by rw [Int.toNat_of_nonneg (by omega)], by omega, by omega⟩
  | _ => simp [isWid] at h
theorem isWord_int {w : Nat} {d : PyData} (h : isWord w d = true) : ∃ a : Int, d = .int a ∧ Wd w a := by
  cases d with
  | int n =>
    simp only [isWord, decide_eq_true_eq] at h
    exact ⟨n, rfl, h⟩
  | _ => simp [isWord] at h
theorem isWord_of {w : Nat} {a : Int} (h : Wd w a) : isWord w (.int a) = true := by simp only [isWord]; exact decide_eq_true ⟨h.1, h.2⟩
theorem isWid_of {w : Nat} (h1 : 1 ≤ w) (h2 : w ≤ 64) : isWid (.int (w : Int)) = true := by simp only [isWid]; exact decide_eq_true ⟨by omega, by omega⟩
theorem chkWs_none {d : PyData} {ds : List PyData} (h : chkWs d ds = none) : isWid d = true ∧ ∀ e ∈ ds, isWord (widOf d) e = true := by
  unfold chkWs at h
  split at h
  · rename_i hw
    refine ⟨hw, fun e he => ?_⟩
    have h1 := List.findIdx?_eq_none_iff.mp (Option.map_eq_none_iff.mp h) e he
    simpa using h1
  · cases h
def spChkWX (P : Program) (K : PySem.W.Frag) (mg : Str → Option Value) : Sp := fun vs H Q E => ∃ (M : List Addr) (v x : V) (d : PyData), vs = [v, x] ∧ Dv M H v d ∧ (isWid d = true → Q .non H) ∧ (isWid d = false → ErrTo P K mg E "InvalidWord" x H)
def spChkWsX (P : Program) (K : PySem.W.Frag) (mg : Str → Option Value) : Sp := fun vs H Q E => ∃ (M : List Addr) (v : V) (t : Addr) (d : PyData) (xs : List V) (ds : List PyData), vs = [v, .ref t] ∧ Dv M H v d ∧ SqT K H t xs ∧ xs.length = ds.length ∧ (∀ (i : Nat) (x : V) (e : PyData), xs[i]? = some x → ds[i]? = some e → Dv M H x e) ∧
  (chkWs d ds = none → ∀ H', Ex H H' → Q .non H') ∧ (∀ k, chkWs d ds = some k → ErrTo P K mg E "InvalidWord" (.int (k : Int)) H)
def spBinX (P : Program) (K : PySem.W.Frag) (mg : Str → Option Value) (g : Nat → Int → Int → Int) : Sp := fun vs H Q E => ∃ (M : List Addr) (v x y : V) (d e f : PyData), vs = [v, x, y] ∧ Dv M H v d ∧ Dv M H x e ∧ Dv M H y f ∧
  (∀ (w : Nat) (a b : Int), d = .int (w : Int) → e = .int a → f = .int b → 1 ≤ w → w ≤ 64 → Wd w a → Wd w b → ∀ H', Ex H H' → Q (.int (g w a b)) H') ∧ (∀ k, chkWs d [e, f] = some k → ErrTo P K mg E "InvalidWord" (.int (k : Int)) H)
/-- an odd number -/
def isOddN : PyData → Bool
  | .int n => decide (n % 2 ≠ 0)
  | _ => false
def spTimesX (P : Program) (K : PySem.W.Frag) (mg : Str → Option Value) : Sp := fun vs H Q E => ∃ (M : List Addr) (v x y : V) (d e f : PyData), vs = [v, x, y] ∧ Dv M H v d ∧ Dv M H x e ∧ Dv M H y f ∧ (∀ n, f = .int n → n.natAbs < 2 ^ 4000) ∧
  (∀ (w : Nat) (a n : Int), d = .int (w : Int) → e = .int a → f = .int n → 1 ≤ w → w ≤ 64 → Wd w a → n % 2 ≠ 0 → ∀ H', Ex H H' → Q (.int (a * n % 2 ^ w)) H') ∧
  (∀ k, chkWs d [e] = some k → ErrTo P K mg E "InvalidWord" (.int (k : Int)) H) ∧ (chkWs d [e] = none → isOddN f = false → ErrTo P K mg E "InvalidQuestion" (.int 2) H)
/-! what two words tell, all ten -/
def opR (w : Nat) : Nat → Int → Int → Option Int
  | 7, a, b => some (if a < b then 1 else 0)
  | 8, a, b => if b = 0 then none else some (a / b)
  | 9, a, b => if b = 0 then none else some (a % b)
  | k, a, b => some (opF w k a b)
def valO : Option Int → V
  | none => .non
  | some z => .int z
def spResult10 : Sp := fun vs H Q _ => ∃ (w k : Nat) (a b : Int), vs = [.str (opV k), .int w, .int a, .int b] ∧ 1 ≤ w ∧ w ≤ 64 ∧ k < 10 ∧ Wd w a ∧ Wd w b ∧ ∀ H', Ex H H' → Q (valO (opR w k a b)) H'
def spTold10 : Sp := fun vs H Q _ => ∃ (w k : Nat) (a b : Int), vs = [.int w, .str (opV k), .int a, .int b] ∧ 1 ≤ w ∧ w ≤ 64 ∧ k < 10 ∧ Wd w a ∧ Wd w b ∧ ∀ H', Ex H H' → Q (valO (opR w k a b)) H'
inductive Out where
  | told (z : Int)
  | err (nm : Str) (at_ : Int)
/-- the number of a word of two -/
def isPairD : PyData → Option Nat
  | .str z => (List.range 10).find? fun k => decide (opV k = z)
  | _ => none
def reckOut (d p e f : PyData) : Out :=
  if isWid d = false then .err "InvalidWord" 0
  else match isPairD p with
  | none => .err "InvalidQuestion" 1
  | some k => if isWord (widOf d) e = false then .err "InvalidWord" 2 else if isWord (widOf d) f = false then .err "InvalidWord" 3 else
    match e, f with
    | .int a, .int b => match opR (widOf d) k a b with
      | none => .err "Refused" 0
      | some z => .told z
    | _, _ => .err "Refused" 0
def spReckX (P : Program) (K : PySem.W.Frag) (mg : Str → Option Value) : Sp := fun vs H Q E => ∃ (M : List Addr) (v p x y : V) (d c e f : PyData), vs = [v, p, x, y] ∧ Dv M H v d ∧ Dv M H p c ∧ Dv M H x e ∧ Dv M H y f ∧
  (∀ z, reckOut d c e f = .told z → ∀ H', Ex H H' → Q (.int z) H') ∧ (∀ nm k, reckOut d c e f = .err nm k → ErrTo P K mg E nm (.int k) H)
end BkG
end
section
namespace BkG
open PySem PySem.Spec PyProof.Rows L2 LamX
/-! ### what is told of a lambda that may be refused -/
def aTupV (Q : VK) (xs : List V) (H1 : Hp) : Prop := aTup Q xs H1
/-- which error is told by which word -/
def heardTags : List (Str × Str) := [("InvalidWord", "word"), ("InvalidQuestion", "question"), ("Refused", "refused")]
def EHeard (P : Program) (K : PySem.W.Frag) (mg : Str → Option Value) (L : List (Str × Str)) (Q : VK) : XK := fun cls d H' => ∃ (nm tag : Str) (C fI dd : Addr) (v : V), (nm, tag) ∈ L ∧ PySem.BkErr.ErrTxt P K mg nm C fI ∧ cls = .ref C ∧ d = some dd ∧ H' dd = some (.xd [(("at" : Str), v)]) ∧ aTup Q [.str tag, v] H'
def TTHeard (P : Program) (K : PySem.W.Frag) (mg : Str → Option Value) (L : List (Str × Str)) : (XK → Hp → VK → Prop) → Hp → VK → Prop := fun tl H Q => tl (EHeard P K mg L Q) H (fun v H2 => aTup Q [.str "told", v] H2)
theorem heard_err {P : Program} {K : PySem.W.Frag} {mg : Str → Option Value} {L : List (Str × Str)} {Q : VK} {nm tag : Str} {v : V} {H : Hp} (m : (nm, tag) ∈ L) (q : ∀ H', Ex H H' → aTup Q [.str tag, v] H') : ErrTo P K mg (EHeard P K mg L Q) nm v H :=
  fun C fI d H' T hd e hx => ⟨nm, tag, C, fI, d, v, m, T, rfl, rfl, hx, q H' e⟩
section
variable {σ : L2.St} {H : Hp} {Q : VK} {T : List (Addr × Str)} {TT : (XK → Hp → VK → Prop) → Hp → VK → Prop} {t : XK → TE}
theorem w_lam (hT : Tabs T H) (h : ∀ H1, ExtN H H1 → Tabs T H1 → TT (fun E H' Q' => t E σ H' Q') H1 Q) : tLam T TT t σ H Q := ⟨hT, h⟩
end
theorem ExtN.at {H H1 : Hp} {a : Addr} {o : HO} (e : ExtN H H1) (h : H a = some o) (n : ∀ ps, o ≠ .tbl ps) : H1 a = some o := e a o h n
theorem Deal.extN {H H' : Hp} {D L : Addr} (h : Deal H D L) (e : ExtN H H') : Deal H' D L := by
  obtain ⟨st, b, d⟩ := h
  exact ⟨st, b, e _ _ d.hD (fun _ h => by cases h), e _ _ d.hL (fun _ h => by cases h), d.len, d.all, d.b0, d.b1⟩
theorem Ex.extN {H H' : Hp} (e : Ex H H') : ExtN H H' := .of e
theorem tabs_kp {T : List (Addr × Str)} {H H' : Hp} {M : List Addr} (t : Tabs T H) (k : Kp M H H') (n : ∀ p ∈ T, p.1 ∉ M ∧ ∀ c q, H c = some (CodeO c q) → c ∉ M) : Tabs T H' := fun p hp => by
  obtain ⟨ps, h1, h2, h3⟩ := t p hp
  obtain ⟨n1, n2⟩ := n p hp
  refine ⟨ps, k _ _ h1 n1, h2, fun pos cv hc => ?_⟩
  obtain ⟨c, e1, e2⟩ := h3 pos cv hc
  exact ⟨c, e1, k _ _ e2 (n2 _ _ e2)⟩
theorem tabs_kpD {T : List (Addr × Str)} {H H' : Hp} {D L : Addr} (t : Tabs T H) (k : Kp [D, L] H H') (d : Deal H D L) : Tabs T H' := by
  obtain ⟨st, b, d⟩ := d
  refine tabs_kp t k fun p hp => ⟨?_, fun c q hc => ?_⟩
  · obtain ⟨ps, h1, _⟩ := t p hp
    have a1 : p.1 ≠ D := fun e => by rw [e, d.hD] at h1; cases h1
    have a2 : p.1 ≠ L := fun e => by rw [e, d.hL] at h1; cases h1
    simp [a1, a2]
  · have a1 : c ≠ D := fun e => by rw [e, d.hD] at hc; unfold CodeO at hc; cases hc
    have a2 : c ≠ L := fun e => by rw [e, d.hL] at hc; unfold CodeO at hc; cases hc
    simp [a1, a2]
theorem tabs_kp1 {T : List (Addr × Str)} {H H' : Hp} {S : Addr} {xs : List V} (t : Tabs T H) (k : Kp [S] H H') (hS : H S = some (.lst xs)) : Tabs T H' := by
  refine tabs_kp t k fun p hp => ⟨?_, fun c q hc => ?_⟩
  · obtain ⟨ps, h1, _⟩ := t p hp
    have a1 : p.1 ≠ S := fun e => by rw [e, hS] at h1; cases h1
    simp [a1]
  · have a1 : c ≠ S := fun e => by rw [e, hS] at hc; unfold CodeO at hc; cases hc
    simp [a1]
theorem tabs_mut {T : List (Addr × Str)} {H H' : Hp} {S : Addr} {xs : List V} (t : Tabs T H) (k : ∀ a o, a ≠ S → H a = some o → H' a = some o) (hS : H S = some (.lst xs)) : Tabs T H' :=
  tabs_kp1 t (S := S) (fun a o h n => k a o (by simpa using n) h) hS
theorem exm_b {K : PySem.W.Frag} {S C : Addr} {b : Bool} (h1 : PySem.W.subIn K (.ref S) (.type "BaseException") = some true) (h2 : PySem.W.isClsIn K S = true) (h3 : PySem.W.typeIn K (.ref S) = some (.type "type")) (h4 : PySem.W.subIn K (.ref C) (.ref S) = some b) : PySem.W.exmOne K (.ref C) (.ref S) = some b := by
  have e1 : (PySem.W.subIn K (.ref S) (.type "BaseException") == some true) = true := by rw [h1] <;> rfl
  have e2 : ((PySem.W.clsIn K S).isSome && PySem.W.typeIn K (.ref S) == some (.type "type")) = true := by
    have h2' : (PySem.W.clsIn K S).isSome = true := h2
    rw [h2', h3] <;> rfl
  show (if (PySem.W.subIn K (.ref S) (.type "BaseException") == some true) = true then (if ((PySem.W.clsIn K S).isSome && PySem.W.typeIn K (.ref S) == some (.type "type")) = true then PySem.W.subIn K (.ref C) (.ref S) else none) else none) = some b
  rw [if_pos e1, if_pos e2]
  exact h4
/-- the def's code object and its table -/
theorem tab_in {K : PySem.W.Frag} {x : Str} {f c P' : Addr} {oc kc : Value} {od kd : Option Addr} {osl ksl : Array (Option Value)} {fd : FuncData} {kvs : Array Value} (a : PySem.W.nsIn K mainGlobals x = some (some (.ref f))) (l : K.lookup f = some ⟨oc, od, .func fd, osl⟩) (hc : fd.code = .ref c)
    (lc : K.lookup c = some ⟨kc, kd, .fields kvs, ksl⟩) (pv : (kvs[11]? : Option Value) = some (.ref P')) : PySem.W.tabIn K x = some (c, P') := by
  unfold PySem.W.tabIn
  rw [a]
  simp only
  rw [l]
  simp only
  rw [hc]
  simp only
  rw [lc]
  simp only
  rw [pv]
/-! ### the end of the row: the top's facts are handed on -/
theorem walk_ofTs2 {l : PySem.W.OpenLaw} {n k : Nat} {q : Program} {loose : List Str} {XP : (Str → Option Value) → Heap → Prop} {YP : World → Heap → Prop} {d : DefRec} {K : Params → PySem.W.Frag} {CX : World → CXT} {x : Str}
    (hn : l.most = some n) (hn2 : n ≤ sizeLine) (hdf : d.params.defaults = []) (hr : Room k callerA) (hY : ∀ (w : World) (h : Heap), YP w h → (K w.params).In h)
    (F : ∀ (w : World) (mg : Str → Option Value) (fa : Addr) (h : Heap), YP w h → (K w.params).In h → h.Ns mainGlobals mg → (∀ {d' : DefRec} {x' : Str} {c P : Addr}, (recsOf q).find? (fun e => e.name == x') = some d' → PySem.W.tabIn (K w.params) x' = some (c, P) → PySem.W.CodeHd h c P ∧ h.get? P = some (PySem.W.tabObj #[])) → mg d.name = some (.ref fa) → LawAtS l w (K w.params) (CX w) k n x mg fa h)
    (hCX : ∀ (w : World) (H : Hp) (s : Shared) (e : Value) (s' : Shared), CX w [] H s (fun _ _ _ => False) e s' → False) :
    PySem.W.WalkO q loose XP YP l.row.toRowW d [] (fun f vs => PySem.call f vs) := by
  refine Att.attach_callB hn hdf fun w s₀ s₁ mg mb fa o pm cd doc a vs ns G Y ho hd hcd hmg hobj hints hlen hbits hg => ?_
  have KX := hY w _ Y
  obtain ⟨fd, cs, sp, hT, nT, C, hb, hsp, hF⟩ := F w mg fa _ Y KX G.T.g (fun hr ht => PySem.W.tab_of G.T KX hr ht) hmg
  exact law_callTs KX G.T.g G.T.b G.T.builtins G.T.nolimit hg hT nT C G.T.bmain hobj hints (Nat.le_trans hlen hn2) hr hF hb (fun H hH hS => hsp H a ns hlen hbits hH hS) fun H e s' => hCX w H s₁ e s'
end BkG
end
section
namespace BkG
open PySem PySem.Spec L2
/-! ### plain data compared -/
theorem depthAll_le {k : Nat} : ∀ {ds : List PyData}, (∀ d ∈ ds, d.depth ≤ k) → PyData.depthAll ds ≤ k
  | [], _ => Nat.zero_le _
  | d :: ds, h => Nat.max_le.mpr ⟨h d (by simp), depthAll_le fun e he => h e (by simp [he])⟩
theorem depth_okD : ∀ {n : Nat} {d : PyData}, okD n d = true → d.depth ≤ n
  | n, .none, _ => Nat.zero_le _
  | n, .bool _, _ => Nat.zero_le _
  | n, .int _, _ => Nat.zero_le _
  | n, .str _, _ => Nat.zero_le _
  | 0, .list _, h => by simp [okD] at h
  | 0, .tuple _, h => by simp [okD] at h
  | 0, .dict _, h => by simp [okD] at h
  | _ + 1, .dict _, h => by simp [okD] at h
  | n + 1, .list xs, h => by
    simp only [okD, Bool.and_eq_true, List.all_eq_true] at h
    exact Nat.succ_le_succ (depthAll_le fun d hd => depth_okD (h.2 d hd))
  | n + 1, .tuple xs, h => by
    simp only [okD, Bool.and_eq_true, List.all_eq_true] at h
    exact Nat.succ_le_succ (depthAll_le fun d hd => depth_okD (h.2 d hd))
theorem layAll_iff : ∀ {ds : List PyData}, PyData.canLayAll0 ds = true ↔ ∀ d ∈ ds, PyData.canLay0 d = true
  | [] => by simp [PyData.canLayAll0]
  | d :: ds => by
    rw [PyData.canLayAll0, Bool.and_eq_true, layAll_iff (ds := ds)]
    simp
/-- data that may be compared: at most n deep, its texts such as can be -/
def nice (n : Nat) (d : PyData) : Bool := okD n d && PyData.canLay0 d
theorem nice.ok {n : Nat} {d : PyData} (h : nice n d = true) : okD n d = true := by unfold nice at h; rw [Bool.and_eq_true] at h; exact h.1
theorem nice.lay {n : Nat} {d : PyData} (h : nice n d = true) : PyData.canLay0 d = true := by unfold nice at h; rw [Bool.and_eq_true] at h; exact h.2
theorem nice.mk {n : Nat} {d : PyData} (h1 : okD n d = true) (h2 : PyData.canLay0 d = true) : nice n d = true := by unfold nice; rw [h1, h2]; rfl
theorem nice.mono {n m : Nat} {d : PyData} (h : nice n d = true) (l : n ≤ m) : nice m d = true := nice.mk (okD.mono l (nice.ok h)) (nice.lay h)
theorem nice.shaped {n : Nat} {d : PyData} (h : nice n d = true) (hn : n ≤ 64) : SeqAt.shaped d = true := by
  unfold SeqAt.shaped
  rw [nice.lay h, decide_eq_true (Nat.le_trans (depth_okD (nice.ok h)) hn)]
  rfl
theorem nice.tup_in {n : Nat} {ds : List PyData} {d : PyData} (h : nice (n + 1) (.tuple ds) = true) (hd : d ∈ ds) : nice n d = true := by
  have h1 := nice.ok h
  have h2 := nice.lay h
  simp only [okD, Bool.and_eq_true, List.all_eq_true] at h1
  exact nice.mk (h1.2 d hd) (layAll_iff.mp h2 d hd)
theorem nice.tup_len {n : Nat} {ds : List PyData} (h : nice n (.tuple ds) = true) : ds.length ≤ 90000 := by
  have h1 := nice.ok h
  cases n with
  | zero => simp [okD] at h1
  | succ n => simp only [okD, Bool.and_eq_true, decide_eq_true_eq] at h1; exact h1.1
theorem nice.tup {n : Nat} {ds : List PyData} (l : ds.length ≤ 90000) (h : ∀ d ∈ ds, nice n d = true) : nice (n + 1) (.tuple ds) = true :=
  nice.mk (by simp only [okD, Bool.and_eq_true, decide_eq_true_eq, List.all_eq_true]; exact ⟨l, fun d hd => nice.ok (h d hd)⟩) (layAll_iff.mpr fun d hd => nice.lay (h d hd))
theorem nice.lst {n : Nat} {ds : List PyData} (l : ds.length ≤ 90000) (h : ∀ d ∈ ds, nice n d = true) : nice (n + 1) (.list ds) = true :=
  nice.mk (by simp only [okD, Bool.and_eq_true, decide_eq_true_eq, List.all_eq_true]; exact ⟨l, fun d hd => nice.ok (h d hd)⟩) (layAll_iff.mpr fun d hd => nice.lay (h d hd))
theorem nice.pos {n : Nat} {ds : List PyData} (h : nice n (.tuple ds) = true) : ∃ m, n = m + 1 := by
  have h1 := nice.ok h
  cases n with
  | zero => simp [okD] at h1
  | succ n => exact ⟨n, rfl⟩
def strIs (d : PyData) (t : Str) : Bool := match d with
  | .str s => s == t
  | _ => false
theorem eqv_str {d : PyData} {t : Str} : PyData.eqv d (.str t) = strIs d t := by cases d <;> simp [PyData.eqv, strIs]
theorem smD_str {d : PyData} {t : Str} : smD d (.str t) = strIs d t := by cases d <;> simp [smD, strIs]
theorem eqv_nilT {ds : List PyData} : PyData.eqv (.tuple ds) (.tuple []) = ds.isEmpty := by cases ds <;> simp [PyData.eqv, PyData.eqvAll]
theorem okD_str (t : Str) (n : Nat) : okD n (.str t) = true := by cases n <;> rfl
/-! ### kinds of values -/
def kindS : Nat → Str
  | 0 => "word" | 1 => "array" | 2 => "stack" | 3 => "in" | _ => "out"
def kindsV : List V := [.str "word", .str "array", .str "stack", .str "in", .str "out"]
def isKindD : PyData → Bool
  | .str s => inV (.str s) kindsV
  | _ => false
def areKindsD : PyData → Bool
  | .tuple ds => decide (ds.length ≤ 20) && ds.all isKindD
  | _ => false
def wordsD (w most : Nat) : PyData → Bool
  | .tuple ds => decide (ds.length ≤ most) && ds.all (isWord w)
  | _ => false
def tagK (k : Nat) : Str := if k = 2 then "stack" else "channel"
def isOfD (w : Nat) : Nat → PyData → Bool
  | 0, d => isWord w d
  | 1, .tuple ds => wordsD w 200 (.tuple ds) && !ds.isEmpty
  | k + 2, .tuple [h, t] => strIs h (tagK (k + 2)) && wordsD w 2000 t
  | _, _ => false
def kindsOfD (w : Nat) (d : PyData) : List Nat := (List.range 5).filter fun k => isOfD w k d
def nothingD : Nat → PyData
  | 0 => .int 0 | 1 => .tuple [.int 0] | 2 => .tuple [.str "stack", .tuple []] | _ => .tuple [.str "channel", .tuple []]
def kindsT (ks : List Nat) : List PyData := ks.map fun k => .str (kindS k)
def emptyD (ks : List Nat) : PyData := .tuple (ks.map nothingD)
def fitD (w : Nat) (ks : List Nat) : PyData → Bool
  | .tuple ds => decide (ds.length = ks.length) && (ds.zip ks).all fun p => isOfD w p.2 p.1
  | _ => false
theorem cases5 {k : Nat} (h : k < 5) : k = 0 ∨ k = 1 ∨ k = 2 ∨ k = 3 ∨ k = 4 := by omega
theorem kind_at {i : Nat} {x : V} (h : kindsV[i]? = some x) : i < 5 ∧ x = .str (kindS i) := by
  have hi : i < 5 := (List.getElem?_eq_some_iff.mp h).1
  refine ⟨hi, ?_⟩
  rcases cases5 hi with rfl | rfl | rfl | rfl | rfl <;> (cases h; rfl)
theorem isKindD_inv {d : PyData} (h : isKindD d = true) : ∃ k, k < 5 ∧ d = .str (kindS k) := by
  cases d with
  | str s =>
    have h1 : inV (.str s) kindsV = true := h
    unfold inV at h1
    rw [List.any_eq_true] at h1
    obtain ⟨y, hy, he⟩ := h1
    obtain ⟨i, hi⟩ := List.getElem?_of_mem hy
    obtain ⟨h5, rfl⟩ := kind_at hi
    have e : kindS i = s := by
      have h' : (kindS i == s) = true := he
      exact eq_of_beq h'
    exact ⟨i, h5, by rw [e]⟩
  | _ => cases h
theorem isKindD_of {k : Nat} (h : k < 5) : isKindD (.str (kindS k)) = true := by
  rcases cases5 h with rfl | rfl | rfl | rfl | rfl <;> decide +kernel
theorem areKindsD_inv {d : PyData} (h : areKindsD d = true) : ∃ ks, d = .tuple (kindsT ks) ∧ ks.length ≤ 20 ∧ ∀ k ∈ ks, k < 5 := by
  cases d with
  | tuple ds =>
    simp only [areKindsD, Bool.and_eq_true, decide_eq_true_eq, List.all_eq_true] at h
    have : ∀ ds : List PyData, (∀ d ∈ ds, isKindD d = true) → ∃ ks, ds = kindsT ks ∧ ∀ k ∈ ks, k < 5 := by
      intro ds
      induction ds with
      | nil => exact fun _ => ⟨[], rfl, by simp⟩
      | cons d ds ih =>
        intro h
        obtain ⟨ks, rfl, h5⟩ := ih fun e he => h e (by simp [he])
        obtain ⟨k, hk, rfl⟩ := isKindD_inv (h d (by simp))
        exact ⟨k :: ks, rfl, fun j hj => by
          rcases List.mem_cons.mp hj with rfl | hj
          · exact hk
          · exact h5 j hj⟩
    obtain ⟨ks, rfl, h5⟩ := this ds h.2
    exact ⟨ks, rfl, by simpa [kindsT] using h.1, h5⟩
  | _ => cases h
theorem areKindsD_of {ks : List Nat} (l : ks.length ≤ 20) (h : ∀ k ∈ ks, k < 5) : areKindsD (.tuple (kindsT ks)) = true := by
  simp only [areKindsD, Bool.and_eq_true, decide_eq_true_eq, List.all_eq_true]
  refine ⟨by simpa [kindsT] using l, fun d hd => ?_⟩
  obtain ⟨k, hk, rfl⟩ := List.mem_map.mp hd
  exact isKindD_of (h k hk)
theorem r_isiLT {K : PySem.W.Frag} {M : List Addr} {H : Hp} {Q : VK} {v : V} {d : PyData} {p : Addr} (hp : H p = some (.tup [.ty "list", .ty "tuple"])) (h : Dv M H v d) (q : Q (.bl (isTup d || isLst d)) H) : rIsiT K [v, .ref p] H Q := by
  have n := h.nodict
  have h1 : PySem.W.kitOne K (.type (tyN d)) (.type "list") = some (isLst d) := kit_ty (by cases d <;> first | exact absurd rfl (n _) | (simp only [tyN, isTup, isLst]; decide +kernel))
  have h2 : PySem.W.kitOne K (.type (tyN d)) (.type "tuple") = some (isTup d) := kit_ty (by cases d <;> first | exact absurd rfl (n _) | (simp only [tyN, isTup, isLst]; decide +kernel))
  rw [Bool.or_comm] at q
  refine ⟨v, p, _, _, [.type "list", .type "tuple"], _, rfl, hp, .cons (.ty _) (.cons (.ty _) .nil), h.ty, kitAny_cons (r := isLst d || isTup d) h1 (fun e => ?_) (fun e => by rw [e]; rfl), q⟩
  rw [e, Bool.false_or]
  exact kitAny_cons h2 (fun e => by rw [e]; exact kitAny_nil) fun e => e
theorem r_all {K : PySem.W.Frag} {H : Hp} {Q : VK} {a : Addr} {bs : List Bool} (h : H a = some (.lst (bs.map V.bl))) (q : Q (.bl (bs.all id)) H) : rAll K [.ref a] H Q := ⟨a, bs, rfl, .of h, q⟩
theorem r_any {K : PySem.W.Frag} {H : Hp} {Q : VK} {a : Addr} {bs : List Bool} (h : H a = some (.lst (bs.map V.bl))) (q : Q (.bl (bs.any id)) H) : rAny K [.ref a] H Q := ⟨a, bs, rfl, .of h, q⟩
theorem take_map_more {α β : Type} {f : α → β} {l : List α} {i : Nat} {x : α} (h : l[i]? = some x) : (l.take (i + 1)).map f = (l.take i).map f ++ [f x] := by
  rw [List.take_add_one, h]; simp
theorem r_neD2 {K : PySem.W.Frag} {M : List Addr} {H : Hp} {Q : VK} {x y : V} {d e : PyData} (h1 : Dv M H x d) (h2 : Dv M H y e) (s1 : nice 60 d = true) (s2 : nice 60 e = true) (q : Q (.bl (!PyData.eqv d e)) H) : rNeD K x y H Q := r_neD h1.dp h2.dp (nice.shaped s1 (by decide)) (nice.shaped s2 (by decide)) q
theorem r_eqD2 {K : PySem.W.Frag} {M : List Addr} {H : Hp} {Q : VK} {x y : V} {d e : PyData} (h1 : Dv M H x d) (h2 : Dv M H y e) (s1 : nice 60 d = true) (s2 : nice 60 e = true) (q : Q (.bl (PyData.eqv d e)) H) : rEqD K x y H Q := r_eqD h1.dp h2.dp (nice.shaped s1 (by decide)) (nice.shaped s2 (by decide)) q
theorem dv_nilT {M : List Addr} {H : Hp} {p : Addr} (h : H p = some (.tup [])) : Dv M H (.ref p) (.tuple []) := .tup h rfl fun i v d h1 => by cases h1
theorem dv_nilL {H : Hp} {p : Addr} (h : H p = some (.lst [])) : Dv [] H (.ref p) (.list []) := .lst h (by simp) rfl fun i v d h1 => by cases h1
theorem nice_word {w n : Nat} {d : PyData} (h : isWord w d = true) : nice n d = true := by
  obtain ⟨a, rfl, _⟩ := isWord_int h
  exact nice.mk (by cases n <;> rfl) rfl
theorem nice_words {w most n : Nat} {d : PyData} (h : wordsD w most d = true) (hm : most ≤ 2000) : nice (n + 1) d = true := by
  cases d with
  | tuple ds =>
    simp only [wordsD, Bool.and_eq_true, decide_eq_true_eq, List.all_eq_true] at h
    exact nice.tup (by omega) fun d hd => nice_word (h.2 d hd)
  | _ => cases h
def spKind : Sp := fun vs H Q _ => ∃ M v d, vs = [v] ∧ Dv M H v d ∧ Q (.bl (isKindD d)) H
def spSeqq : Sp := fun vs H Q _ => ∃ M v d, vs = [v] ∧ Dv M H v d ∧ ∀ H', Ex H H' → Q (.bl (isTup d || isLst d)) H'
def spKinds : Sp := fun vs H Q _ => ∃ M v d, vs = [v] ∧ Dv M H v d ∧ ∀ H', Ex H H' → Q (.bl (areKindsD d)) H'
def spWords : Sp := fun vs H Q _ => ∃ (M : List Addr) (v : V) (d : PyData) (w most : Nat), vs = [v, .int w, .int most] ∧ 1 ≤ w ∧ w ≤ 64 ∧ most ≤ 2000 ∧ Dv M H v d ∧ ∀ H', Ex H H' → Q (.bl (wordsD w most d)) H'
def spOfKind : Sp := fun vs H Q _ => ∃ (M : List Addr) (v : V) (d : PyData) (k w : Nat), vs = [v, .str (kindS k), .int w] ∧ k < 5 ∧ 1 ≤ w ∧ w ≤ 64 ∧ Dv M H v d ∧ nice 60 d = true ∧ ∀ H', Ex H H' → Q (.bl (isOfD w k d)) H'
def spIsValue (P : Program) (K : PySem.W.Frag) (mg : Str → Option Value) : Sp := fun vs H Q E => ∃ (M : List Addr) (v u : V) (d e : PyData), vs = [v, u] ∧ Dv M H v d ∧ nice 60 d = true ∧ Dv M H u e ∧
  (isWid e = true → ∀ H', Ex H H' → Q (.bl !(kindsOfD (widOf e) d).isEmpty) H') ∧ (isWid e = false → ErrTo P K mg E "InvalidWord" (.int 1) H)
def spKindsOf (P : Program) (K : PySem.W.Frag) (mg : Str → Option Value) : Sp := fun vs H Q E => ∃ (M : List Addr) (v u : V) (d e : PyData), vs = [v, u] ∧ Dv M H v d ∧ (isWid e = true → nice 60 d = true) ∧ Dv M H u e ∧
  (isWid e = true → kindsOfD (widOf e) d ≠ [] → ∀ p H', Ex H H' → H' p = some (.tup ((kindsOfD (widOf e) d).map fun k => V.str (kindS k))) → Q (.ref p) H') ∧ (isWid e = false → ErrTo P K mg E "InvalidWord" (.int 1) H) ∧ (isWid e = true → kindsOfD (widOf e) d = [] → ErrTo P K mg E "InvalidQuestion" (.int 0) H)
def spFitKinds : Sp := fun vs H Q _ => ∃ (M : List Addr) (v t : V) (d : PyData) (ks : List Nat) (w : Nat), vs = [v, t, .int w] ∧ 1 ≤ w ∧ w ≤ 64 ∧ Dv M H v d ∧ nice 60 d = true ∧ Dv M H t (.tuple (kindsT ks)) ∧ (∀ k ∈ ks, k < 5) ∧ ks.length ≤ 20 ∧ ∀ H', Ex H H' → Q (.bl (fitD w ks d)) H'
def spFit (P : Program) (K : PySem.W.Frag) (mg : Str → Option Value) : Sp := fun vs H Q E => ∃ (M : List Addr) (v t u : V) (d e f : PyData), vs = [v, t, u] ∧ Dv M H v d ∧ nice 60 d = true ∧ Dv M H t e ∧ Dv M H u f ∧
  (∀ ks, e = .tuple (kindsT ks) → (∀ k ∈ ks, k < 5) → ks.length ≤ 20 → isWid f = true → ∀ H', Ex H H' → Q (.bl (fitD (widOf f) ks d)) H') ∧
  (areKindsD e = false → ErrTo P K mg E "InvalidQuestion" (.int 1) H) ∧ (areKindsD e = true → isWid f = false → ErrTo P K mg E "InvalidWord" (.int 2) H)
def seqKinds : PyData → Bool
  | .tuple ds => areKindsD (.tuple ds)
  | .list ds => areKindsD (.tuple ds)
  | _ => false
def spEmpty (P : Program) (K : PySem.W.Frag) (mg : Str → Option Value) : Sp := fun vs H Q E => ∃ (M : List Addr) (v : V) (d : PyData), vs = [v] ∧ Dv M H v d ∧ (∀ ds, d = .list ds → ds.length ≤ 90000) ∧
  (∀ ks, (d = .tuple (kindsT ks) ∨ d = .list (kindsT ks)) → (∀ k ∈ ks, k < 5) → ks.length ≤ 20 → ∀ v' H', Ex H H' → (∀ M', Dv M' H' v' (emptyD ks)) → Q v' H') ∧ (seqKinds d = false → ErrTo P K mg E "InvalidQuestion" (.int 0) H)
def spIsOfK : Sp := fun vs H Q _ => ∃ (M : List Addr) (v : V) (d : PyData) (k w : Nat), vs = [v, .str (kindS k), .int w] ∧ k < 5 ∧ w ≤ 64 ∧ Dv M H v d ∧ nice 4 d = true ∧ ∀ H', Ex H H' → Q (.bl (isOfD w k d)) H'
def spValue : Sp := fun vs H Q _ => ∃ (D L : Addr) (k w : Nat), vs = [.ref D, .str (kindS k), .int w] ∧ k < 5 ∧ 1 ≤ w ∧ w ≤ 64 ∧ Deal H D L ∧ ∀ (v : V) (d : PyData) (H' : Hp), (∀ M, Dv M H' v d) → isOfD w k d = true → nice 3 d = true → Deal H' D L → Kp [D, L] H H' → Q v H'
def spNear : Sp := fun vs H Q _ => ∃ (D L : Addr) (M : List Addr) (v : V) (d : PyData) (w : Nat), vs = [.ref D, v, .int w] ∧ w ≤ 64 ∧ (∀ a ∈ M, H a ≠ none) ∧ Dv (D :: L :: M) H v d ∧ nice 3 d = true ∧ Deal H D L ∧ ∀ (v : V) (d : PyData) (H' : Hp), Dv (D :: L :: M) H' v d → nice 4 d = true → Deal H' D L → Kp [D, L] H H' → Q v H'
theorem Dv.sub {M M' : List Addr} {H : Hp} {v : V} {d : PyData} (h : Dv M H v d) (s : ∀ a, a ∈ M' → a ∈ M) : Dv M' H v d := by
  induction h with
  | non => exact .non
  | bl b => exact .bl b
  | int i => exact .int i
  | str x => exact .str x
  | lst h n l t ih => exact .lst h (fun z => n (s _ z)) l ih
  | tup h l t ih => exact .tup h l ih
/-- without lists -/
theorem Dv.allKt {H H' : Hp} (k : Kt H H') : ∀ (d : PyData) (v : V), (∀ M, Dv M H v d) → ∀ M, Dv M H' v d
  | .none, v, h, M => by cases h []; exact .non
  | .bool b, v, h, M => by cases h []; exact .bl _
  | .int i, v, h, M => by cases h []; exact .int _
  | .str s, v, h, M => by cases h []; exact .str _
  | .dict kvs, v, h, M => by cases h []
  | .list ds, v, h, M => by
    obtain ⟨a, xs, rfl, _⟩ := (h []).lst_inv
    obtain ⟨b, ys, e, _, n, _⟩ := (h [a]).lst_inv
    cases e
    exact absurd (List.mem_singleton.mpr rfl) n
  | .tuple ds, v, h, M => by
    obtain ⟨a, xs, rfl, ha, hl, _⟩ := (h []).tup_inv
    refine .tup (k _ _ ha) hl fun i x d hx hd => ?_
    have hm := List.sizeOf_lt_of_mem (List.mem_of_getElem? hd)
    refine Dv.allKt k d x (fun M2 => ?_) M
    obtain ⟨b, ys, e, hb, _, ht⟩ := (h M2).tup_inv
    cases e
    rw [ha] at hb; cases hb
    exact ht i x d hx hd
  termination_by d => sizeOf d
  decreasing_by simp_wf; omega
end BkG
end
section
namespace BkG
open PySem PySem.Spec L2
/-! ### {k: v, ..}, d[k], tuple(..) -/
def kDisp (p : Addr) (Q : VK) : List (V × V) → Hp → Prop := fun ps H2 => H2 p = some (.dK []) ∧ ∃ kvs : List (Key × V), ps = kvs.map (fun kv => (kV kv.1, kv.2)) ∧ kvs.length ≤ 15 ∧ Q (.ref p) (upd H2 p (.dK (mergeK [] kvs)))
section
variable {σ : L2.St} {H : Hp} {Q : VK}
theorem w_disp {trs : List (TE × TE)} (h : ∀ p H1, H p = none → Ex H H1 → H1 p = some (.dK []) → tPairs trs σ H1 (kDisp p Q)) : tDisp trs σ H Q := fun p hp => h p _ hp (Ex.new hp) upd_same
theorem w_pair {tk tv : TE} {r : List (TE × TE)} {Q : List (V × V) → Hp → Prop} (h : tk σ H fun x H1 => tv σ H1 fun y H2 => tPairs r σ H2 fun ps H3 => Q ((x, y) :: ps) H3) : tPairs ((tk, tv) :: r) σ H Q := h
theorem w_pairN {Q : List (V × V) → Hp → Prop} (h : Q [] H) : tPairs [] σ H Q := h
theorem k_disp {p : Addr} {ps : List (V × V)} (kvs : List (Key × V)) (hp : H p = some (.dK [])) (e : ps = kvs.map (fun kv => (kV kv.1, kv.2))) (hl : kvs.length ≤ 15) (q : ∀ H2, (∀ a o, a ≠ p → H a = some o → H2 a = some o) → H2 p = some (.dK (mergeK [] kvs)) → Q (.ref p) H2) : kDisp p Q ps H :=
  ⟨hp, kvs, e, hl, q _ (fun a o n h => by rw [upd_ne n]; exact h) upd_same⟩
theorem mk_tup {ys : List V} (q : ∀ p H2, H p = none → Ex H H2 → H2 p = some (.tup ys) → Q (.ref p) H2) : ∀ l, H l = none → Q (.ref l) (upd H l (.tup ys)) := fun l hl => q l _ hl (Ex.new hl) upd_same
theorem mk_lst {ys : List V} (q : ∀ p H2, H p = none → Ex H H2 → H2 p = some (.lst ys) → Q (.ref p) H2) : ∀ l, H l = none → Q (.ref l) (upd H l (.lst ys)) := fun l hl => q l _ hl (Ex.new hl) upd_same
theorem w_dget {td ty : TE} (h : td σ H fun x H1 => ty σ H1 fun y H2 => ∃ a v, x = .ref a ∧ DGet H2 a y (some v) ∧ Q v H2) : tDGet td ty σ H Q := h
end
end BkG
end
section
namespace BkG
open PySem PySem.Spec L2
/-! ### texts: walked sign by sign, indexed, split, joined -/
section
variable {K : PySem.W.Frag} {σ : L2.St} {H : Hp} {v : V} {to te : TE} {tt : TT} {g : TG} {vs : List Nat} {Q : VK}
def kLcS (g : TG) (tt : TT) (te : TE) (vs : List Nat) (σ : L2.St) (Q : VK) : VK := fun x H1 => ∃ z, x = .str z ∧ LcW (Its z) g tt te vs σ Q H1
theorem w_lcS {tl : TE} (h : tl σ H (kLcS g tt te vs σ Q)) : tLc (iStr tl) g tt te vs σ H Q := h
theorem k_lcS {z : Str} (q : LcW (Its z) g tt te vs σ Q H) : kLcS g tt te vs σ Q (.str z) H := ⟨z, rfl, q⟩
theorem lcS {z : Str} (P : Nat → List V → Addr → Hp → Prop) (h0 : ∀ D H2, H D = none → Ex H H2 → H2 D = some (.lst []) → P 0 [] D H2)
    (hs : ∀ (i : Nat) (c : Nat) acc D H', z.cps[i]? = some c → acc.length ≤ i → H D = none → H' D = some (.lst acc) → P i acc D H' → g (.str ⟨#[c]⟩) (wipe σ vs) H' (kTurn tt te vs P D i σ))
    (hd : ∀ acc D H', acc.length ≤ z.cps.size → H D = none → H' D = some (.lst acc) → P z.cps.size acc D H' → Q (.ref D) H') : LcW (Its z) g tt te vs σ Q H := by
  intro D hD
  refine lc_it walk_str (Pc P D) ⟨[], Nat.le_refl _, upd_same, h0 D _ hD (Ex.new hD) upd_same⟩ (fun i H' hi p => trivial) (fun i x H1 H' hi p y => ?_) (fun H' p => ?_)
  · obtain ⟨rfl, c, hc, rfl⟩ := y
    obtain ⟨acc, h1, h2, p⟩ := p
    exact hs i c acc D _ hc h1 hD h2 p
  · obtain ⟨acc, h1, h2, p⟩ := p
    exact hd acc D H' h1 hD h2 p
def kM1 (r : V → List V → Hp → VK → Prop) (te : TE) (σ : L2.St) (Q : VK) : VK := fun x H1 => (∃ a, x = .str a) ∧ te σ H1 fun y H2 => r x [y] H2 Q
theorem w_m1 {r : V → List V → Hp → VK → Prop} (h : to σ H (kM1 r te σ Q)) : tM1 r to te σ H Q := h
theorem k_m1 {r : V → List V → Hp → VK → Prop} {a : Str} (q : te σ H fun y H2 => r (.str a) [y] H2 Q) : kM1 r te σ Q (.str a) H := ⟨⟨a, rfl⟩, q⟩
def kM0 (r : V → List V → Hp → VK → Prop) (Q : VK) : VK := fun x H1 => (∃ a, x = .str a) ∧ r x [] H1 Q
theorem w_m0 {r : V → List V → Hp → VK → Prop} (h : to σ H (kM0 r Q)) : tM0 r to σ H Q := h
theorem k_m0 {r : V → List V → Hp → VK → Prop} {a : Str} (q : r (.str a) [] H Q) : kM0 r Q (.str a) H := ⟨⟨a, rfl⟩, q⟩
theorem r_ixS {z : Str} {i : Int} {c : Nat} (hl : z.length ≤ 100000) (e : atI z.cps.toList i = some c) (q : Q (.str ⟨#[c]⟩) H) : rIxS (.str z) (.int i) H Q := ⟨z, i, c, rfl, rfl, sz_of hl, e, q⟩
end
theorem r_newStrs {H : Hp} {Q : VK} {ys : List Str} (q : ∀ p H2, H p = none → Ex H H2 → H2 p = some (.lst (ys.map V.str)) → Q (.ref p) H2) : rNewStrs ys H Q := fun p hp => q p _ hp (Ex.new hp) upd_same
theorem isEmpty_map2' {α β : Type} {f : α → β} {xs : List α} : (xs.map f).isEmpty = xs.isEmpty := by cases xs <;> rfl
theorem isEmpty_filterC {f : Nat → Bool} : ∀ {l : List Nat}, (l.filter fun c => !f c).isEmpty = l.all f
  | [] => rfl
  | c :: l => by by_cases h : f c = true <;> simp [h, isEmpty_filterC (f := f) (l := l)]
theorem filter_takeC {f : Nat → Bool} {l : List Nat} {i c : Nat} (h : l[i]? = some c) : (l.take (i + 1)).filter f = (l.take i).filter f ++ (if f c = true then [c] else []) := by
  rw [take_more h, List.filter_append]; congr 1; by_cases e : f c = true <;> simp [e]
theorem dv_signs {H : Hp} {p : Addr} {l : List Nat} (h : H p = some (.lst (l.map fun c => V.str ⟨#[c]⟩))) : Dv [] H (.ref p) (.list (l.map fun c => PyData.str ⟨#[c]⟩)) := .lst h (by simp) (by simp) fun i v d h1 h2 => by
  obtain ⟨x, e1, rfl⟩ := map_some h1
  obtain ⟨y, e2, rfl⟩ := map_some h2
  rw [e1] at e2; cases e2; exact .str _
theorem nice_signs {n : Nat} {z : Str} {l : List Nat} (h : nice n (.str z) = true) (hl : l.length ≤ 90000) (s : ∀ c ∈ l, c ∈ z.cps.toList) : nice (n + 1) (.list (l.map fun c => PyData.str ⟨#[c]⟩)) = true := by
  refine nice.lst (by simpa using hl) fun d hd => ?_
  obtain ⟨c, hc, rfl⟩ := List.mem_map.mp hd
  refine nice.mk (okD_str _ _) ?_
  have h2 : PyData.strOk z = true := nice.lay h
  unfold PyData.strOk at h2
  rw [Array.all_eq_true_iff_forall_mem] at h2
  have h3 := h2 c (Array.mem_toList_iff.mp (s c hc))
  show PyData.strOk ⟨#[c]⟩ = true
  unfold PyData.strOk
  simpa using h3
/-! ### names -/
def wordsS : List Str := (["num", "name", "at", "add", "sub", "mul", "both", "any", "mix", "less", "same", "not", "div", "mod", "top", "many", "skip", "plus", "minus", "times", "turn", "swap", "push", "pop", "if", "then", "else", "end", "loop", "from", "do", "until", "local", "in", "call", "uncall", "row", "proc", "word", "array", "stack", "module", "needs", "width", "by", "with", "send", "take", "out", "net", "hands", "channels", "begin", "fork", "join", "jump", "land", "set", "exchange", "face", "code", "slots"] : List String).map Str.ofString
def wordsV : List V := wordsS.map V.str
def isLet (c : Nat) : Bool := decide (97 ≤ c ∧ c ≤ 122)
def isDig (c : Nat) : Bool := decide (48 ≤ c ∧ c ≤ 57)
def nameS (s : Str) : Bool := decide (1 ≤ s.length ∧ s.length ≤ 12) && !inV (.str s) wordsV && isLet (s.cps.toList.headD 0) && s.cps.toList.all fun c => isLet c || isDig c
def isNameD : PyData → Bool
  | .str s => nameS s
  | _ => false
theorem let_in {c : Nat} : decide (c ∈ (("abcdefghijklmnopqrstuvwxyz" : Str)).cps.toList) = isLet c := by
  have e : (("abcdefghijklmnopqrstuvwxyz" : Str)).cps.toList = [97, 98, 99, 100, 101, 102, 103, 104, 105, 106, 107, 108, 109, 110, 111, 112, 113, 114, 115, 116, 117, 118, 119, 120, 121, 122] := by decide +kernel
  rw [e]
  unfold isLet
  refine decide_eq_decide.mpr ?_
  simp only [List.mem_cons, List.not_mem_nil, or_false]
  omega
theorem dig_in {c : Nat} : decide (c ∈ (("0123456789" : Str)).cps.toList) = isDig c := by
  have e : (("0123456789" : Str)).cps.toList = [48, 49, 50, 51, 52, 53, 54, 55, 56, 57] := by decide +kernel
  rw [e]
  unfold isDig
  refine decide_eq_decide.mpr ?_
  simp only [List.mem_cons, List.not_mem_nil, or_false]
  omega
theorem sign_in {c : Nat} : decide (c ∈ (("abcdefghijklmnopqrstuvwxyz0123456789" : Str)).cps.toList) = (isLet c || isDig c) := by
  have e : (("abcdefghijklmnopqrstuvwxyz0123456789" : Str)).cps.toList = [97, 98, 99, 100, 101, 102, 103, 104, 105, 106, 107, 108, 109, 110, 111, 112, 113, 114, 115, 116, 117, 118, 119, 120, 121, 122, 48, 49, 50, 51, 52, 53, 54, 55, 56, 57] := by decide +kernel
  rw [e]
  unfold isLet isDig
  rw [← Bool.decide_or]
  refine decide_eq_decide.mpr ?_
  simp only [List.mem_cons, List.not_mem_nil, or_false]
  omega
def shortS (d : PyData) : Prop := ∀ s, d = .str s → s.length ≤ 1000
def spName : Sp := fun vs H Q _ => ∃ M v d, vs = [v] ∧ Dv M H v d ∧ shortS d ∧ nice 63 d = true ∧ ∀ H', Ex H H' → Q (.bl (isNameD d)) H'
def spNameX : Sp := fun vs H Q _ => ∃ M v d, vs = [v] ∧ Dv M H v d ∧ shortS d ∧ ∀ H', Ex H H' → Q (.bl (isNameD d)) H'
theorem headD_of {l : List Nat} {c : Nat} (h : l[0]? = some c) : l.headD 0 = c := by cases l <;> simp at h ⊢; exact h
theorem len_list (s : Str) : s.cps.toList.length = s.length := by simp [Str.length]
end BkG
end
section
namespace BkG
open PySem PySem.Spec PyProof.Rows L2
/-! ### list comprehensions whose block bears pins: within an except suite, or with what the maker's frame tells -/
/-- a walk, told of the contexts for which a condition stands -/
structure TurnC (C : Cx → Prop) (P : Program) (w : World) (K : PySem.W.Frag) (tg : Expr) (J : It) (fp : List Addr) (it : Addr) (tn : Nat → Heap → Prop) : Prop where
  mem : it ∈ fp
  obj : ∀ i h, tn i h → ∀ b ∈ fp, ∃ o, h.get? b = some o ∧ ∀ v, o.data ≠ .cell v
  keep : ∀ i h h', tn i h → (∀ b ∈ fp, ∀ o, h.get? b = some o → h'.get? b = some o) → tn i h'
  item : ∀ (Y : Cx), Y.prog = P → Y.w = w → Y.K = K → C Y → ∀ (i : Nat) (pins : List (Addr × Obj)) (s : Shared) (σ : L2.St) (H : Hp), Inv Y pins σ H s → (∀ b ∈ fp, FpOk Y pins H b) → tn i s.heap → J.go i H →
    wpAny (model P w) Y.A (pyNext (.ref it)) (fun r z => ∃ u, r = some u ∧ wpAny (model P w) Y.A (letOwnedTupleGo tg (.ref it) u) (fun _ z' => ∃ x G, Inv Y pins σ G z' ∧ RelV x u ∧ J.yld i H x G ∧ tn (i + 1) z'.heap ∧ ∀ b ∈ fp, G b = none) (fun _ _ => False) z) (fun _ _ => False) s
  done : ∀ (Y : Cx), Y.prog = P → Y.w = w → Y.K = K → C Y → ∀ (i : Nat) (pins : List (Addr × Obj)) (s : Shared) (σ : L2.St) (H : Hp), Inv Y pins σ H s → (∀ b ∈ fp, FpOk Y pins H b) → tn i s.heap → J.stop i H →
    wpAny (model P w) Y.A (pyNext (.ref it)) (fun r z => r = none ∧ Inv Y pins σ H z) (fun _ _ => False) s
  self : ∀ (A : Around) (i : Nat) (s : Shared) (Q E : Value → Shared → Prop), tn i s.heap → Q (.ref it) s → wpAny (model P w) A (pyIter (.ref it)) Q E s
theorem TurnC.of {P : Program} {w : World} {K : PySem.W.Frag} {tg : Expr} {J : It} {fp : List Addr} {it : Addr} {tn : Nat → Heap → Prop} (T : Turn P w K tg J fp it tn) : TurnC (fun Y => Y.calm = true) P w K tg J fp it tn :=
  ⟨T.mem, T.obj, T.keep, fun Y a b c d i pins s σ H I f t g => T.item Y a b c d i pins s σ H _ I f t g, fun Y a b c d i pins s σ H I f t g => T.done Y a b c d i pins s σ H _ I f t g, T.self⟩
theorem TurnC.ofH {P : Program} {w : World} {K : PySem.W.Frag} {tg : Expr} {J : It} {fp : List Addr} {it : Addr} {tn : Nat → Heap → Prop} (T : L2H.TurnH P w K tg J fp it tn) : TurnC L2H.HotC P w K tg J fp it tn :=
  ⟨T.mem, T.obj, T.keep, fun Y a b c d i pins s σ H I f t g => T.item Y a b c d i pins s σ H _ I f t g, fun Y a b c d i pins s σ H I f t g => T.done Y a b c d i pins s σ H _ I f t g, T.self⟩
/-- an iterator has come -/
def PIEC (C : Cx → Prop) (X : Cx) (pins : List (Addr × Obj)) (σ : L2.St) (tg : Expr) (R : It → Hp → Prop) (v : Value) (z : Shared) : Prop :=
  ∃ (it : Addr) (fp : List Addr) (tn : Nat → Heap → Prop) (J : It) (G : Hp), v = .ref it ∧ Inv X pins σ G z ∧ TurnC C X.prog X.w X.K tg J fp it tn ∧ tn 0 z.heap ∧ (∀ b ∈ fp, FpOk X pins G b) ∧ R J G
structure PIC (C : Cx → Prop) (X : Cx) (tg iter : Expr) (wi : TI) : Prop where
  run : ∀ (pins : List (Addr × Obj)) (s : Shared) (σ : L2.St) (H : Hp) (R : It → Hp → Prop), Inv X pins σ H s → wi σ H R →
    wpAny (model X.prog X.w) X.A (eval iter X.env) (fun v z => wpAny (model X.prog X.w) X.A (pyIter v) (PIEC C X pins σ tg R) X.xe z) X.xe s
theorem PIC.of {X : Cx} {tg iter : Expr} {wi : TI} (h : PI X tg iter wi) : PIC (fun Y => Y.calm = true) X tg iter wi := ⟨fun pins s σ H R I q => thn (h.run pins s σ H R I q) fun v z hz => thn hz fun u z' ⟨it, fp, tn, J, G, a, b, c, d⟩ => ⟨it, fp, tn, J, G, a, b, .of c, d⟩⟩
theorem PIC.ofH {X : Cx} {tg iter : Expr} {wi : TI} (h : L2H.PIH X tg iter wi) : PIC L2H.HotC X tg iter wi := ⟨fun pins s σ H R I q => thn (h.run pins s σ H R I q) fun v z hz => thn hz fun u z' ⟨it, fp, tn, J, G, a, b, c, d⟩ => ⟨it, fp, tn, J, G, a, b, .ofH c, d⟩⟩
/-- a block's context that bears pins -/
abbrev blkQ (X : Cx) (s : Shared) (H : Hp) (scope : Scope) (cenv : Env) (fp : List Addr) (pn : List (Addr × Obj)) : Cx := { X.blk s H scope cenv fp with pn := pn }
section
variable {X : Cx} {pins pn : List (Addr × Obj)} {σ σ' : L2.St} {H H' : Hp} {s s' : Shared} {scope : Scope} {fp : List Addr} {cenv : Env}
theorem inv_blkQ (J : Inv (X.blk s H scope cenv fp) pn σ' H' s') : Inv (blkQ X s H scope cenv fp pn) [] σ' H' s' :=
  ⟨⟨J.ok.mod, J.ok.kind, J.ok.glob, J.ok.blt, J.ok.above, J.ok.inj, J.ok.has, J.ok.cab, J.ok.hd, J.ok.frames, J.ok.stk, J.ok.exf, J.ok.bs, J.ok.bsz, J.ok.noex, J.ok.exfs, J.ok.funs, J.ok.frf⟩, J.os, J.bare, J.base, J.loc, J.cell, J.free, J.freeC,
    fun q hq => J.pin q (by rw [List.append_nil] at hq; exact hq), J.hok, J.len⟩
/-- the block begins, what was pinned is pinned in it -/
theorem blkQ_start {own : List (Str × Nat)} (I : Inv X pins σ H s) (ok : BlkOk X.N X.env.scope scope own) (hN : X.N.Nodup) (hfp : ∀ b ∈ fp, FpOk X pins H b ∧ b < s.heap.objs.size) (hpn : ∀ q ∈ pn, q ∈ X.pn ++ pins) :
    Inv (blkQ X s H scope (compEnvC scope (cellsFrom (s.heap.objs.size + 1) scope.names (cloFrom X.env.cells scope.names [])) s.heap.objs.size X.env) fp pn) [] (wipe σ (own.map (·.2))) H { s with heap := pushCells (s.heap.push { cls := .type "dict", data := .dict #[] }) scope.names } := by
  refine inv_blkQ (Inv.pins_of (block_start I ok hN hfp) fun q hq => ?_)
  obtain ⟨a1, a2, a3, a4, a5⟩ := I.pin q (hpn q hq)
  refine ⟨pushCells_keeps _ _ _ _ (Heap.get?_push_of_some _ a1), a2, Nat.ne_of_lt (Heap.lt_size a1), fun z => ?_, a5⟩
  rcases List.mem_cons.mp (I.stkSub q.1 z) with z | z
  · exact a3 z
  · exact a4 z
/-- from the block back to the context around it -/
theorem blkQ_back {H3 : Hp} {z3 : Shared} (I3 : Inv X pins σ H3 z3) (ok3 : ∀ b ∈ fp, FpOk X pins H3 b) (J : Inv (blkQ X z3 H3 scope cenv fp pn) [] σ' H' s') : Inv X pins σ H' s' :=
  I3.call' (ch := fp) J.os J.base J.hok J.bare fun b hb => let f := (ok3 b hb).2; ⟨f.2.2.1, f.1, f.2.2.2.1, f.2.2.2.2⟩
/-- what stands at the beginning of a turn -/
def LcAt (Y : Cx) (tn : Nat → Heap → Prop) (fp : List Addr) (W : Nat → Nat → Hp → Prop) (σ0 : L2.St) (n : Nat) (z : Shared) : Prop := ∃ (i : Nat) (G : Hp), Inv Y [] σ0 G z ∧ tn i z.heap ∧ (∀ b ∈ fp, G b = none) ∧ W i n G
end
section
variable {Y : Cx} {C : Cx → Prop} {tg elt : Expr} {ifs : List Expr} {J : It} {fp : List Addr} {it D : Addr} {tn : Nat → Heap → Prop} {g : TG} {tt : TT} {te : TE} {vs : List Nat} {σ : L2.St} {W : Nat → Nat → Hp → Prop} {Q : VK}
/-- one turn -/
theorem lcQ_turn {B : Hp → Prop} {n : Nat} {z : Shared} {R : Result → Shared → Prop} {N : Value → Shared → Prop} (hY : C Y) (nx : Y.xe = fun _ _ => False) (T : TurnC C Y.prog Y.w Y.K tg J fp it tn) (pg : PG Y tg g) (pt : PTs Y ifs tt) (pe : PE Y elt te)
    (fix : ∀ b ∈ fp, ∀ G : Hp, G b = none → FpOk Y [] G b)
    (turns : ∀ i m G, W i m G → (J.stop i G ∧ Q (.ref D) G) ∨ (J.go i G ∧ ∃ Nx : Hp → Prop, (∀ G', Nx G' → ∃ m', m' < m ∧ W (i + 1) m' G') ∧ ∀ x G', J.yld i G x G' → g x (wipe σ vs) G' fun σ2 G2 => wipe σ2 vs = wipe σ vs ∧ tt σ2 G2 fun b G3 =>
      if b = true then te σ2 G3 fun y G4 => ∃ acc, G4 D = some (.lst acc) ∧ acc.length < sizeLine ∧ Nx (upd G4 D (.lst (acc ++ [y]))) else Nx G3))
    (stop : ∀ G z', Inv Y [] (wipe σ vs) G z' → Q (.ref D) G → R (.ok .next) z') (st : LcAt Y tn fp W (wipe σ vs) n z) :
    wpAny (model Y.prog Y.w) Y.A (pyNext (.ref it)) (fun r s₁ => match r with
      | none => R (.ok .next) s₁
      | some v => wpAny (model Y.prog Y.w) Y.A (letOwnedTupleGo tg (.ref it) v) (fun _ s₁' => wpAny (model Y.prog Y.w) Y.A (assign tg Y.env v) (fun _ s₂ =>
          wpAny (model Y.prog Y.w) Y.A (forIn ifs true fun c r => if r = true then do let ok ← isTrue c Y.env (eval c Y.env); pure (ForInStep.yield ok) else pure (ForInStep.yield r)) (fun ok s₃ =>
            if ok = true then wpAny (model Y.prog Y.w) Y.A (eval elt Y.env) (fun x s₄ =>
              wpAny (model Y.prog Y.w) Y.A (call (.builtin "list.append") [.ref D, x]) (fun _ s₅ => ∃ m, m < n ∧ LcAt Y tn fp W (wipe σ vs) m s₅) N s₄) N s₃
            else ∃ m, m < n ∧ LcAt Y tn fp W (wipe σ vs) m s₃) N s₂) N s₁') N s₁) N z := by
  obtain ⟨i, G, I, ht, hn, w⟩ := st
  have noX {α : Type} {t : Sem α} {q q' : α → Shared → Prop} {M : Model} {A : Around} {E : Value → Shared → Prop} {y : Shared} (h : wpAny M A t q Y.xe y) (k : ∀ a y', q a y' → q' a y') : wpAny M A t q' E y := by
    rw [nx] at h
    exact thnF h k
  rcases turns i n G w with ⟨hs, hq⟩ | ⟨hg, Nx, dec, step⟩
  · refine thnF (T.done Y rfl rfl rfl hY i [] z _ G I (fun b hb => fix b hb G (hn b hb)) ht hs) fun r y ⟨e, I'⟩ => ?_
    rw [e]
    exact stop G y I' hq
  refine thnF (T.item Y rfl rfl rfl hY i [] z _ G I (fun b hb => fix b hb G (hn b hb)) ht hg) fun r y ⟨u, e, h⟩ => ?_
  rw [e]
  refine thnF h fun _ y1 ⟨x, G1, I1, rx, hy, t1, n1⟩ => ?_
  have own1 := T.obj _ _ t1
  have I1 := I1.pinned (fun b hb => fix b hb G1 (n1 b hb)) own1
  refine noX (pg.run _ y1 _ G1 x u _ I1 rx (step x G1 hy)) fun _ y2 ⟨σ2, G2, I2, hw, q2⟩ => ?_
  refine noX (pt.run _ y2 σ2 G2 _ I2 q2) fun b y3 ⟨G3, I3, q3⟩ => ?_
  -- whatever comes behind the tests: the turn ends where the next one begins
  have next : ∀ {y' : Shared} {G' : Hp}, Inv Y ([] ++ pinsAt fp y1.heap) σ2 G' y' → Nx G' → ∃ m, m < n ∧ LcAt Y tn fp W (wipe σ vs) m y' := fun {y' G'} I' q' => by
    obtain ⟨m, lt, w'⟩ := dec G' q'
    have pinned : ∀ b ∈ fp, (∀ o, y1.heap.get? b = some o → y'.heap.get? b = some o) ∧ G' b = none := fun b hb => by
      obtain ⟨o, ho, _⟩ := own1 b hb
      have pb := I'.pin (b, o) (List.mem_append_right _ (List.mem_append_right _ (mem_pinsAt hb ho)))
      exact ⟨fun o' ho' => by rw [ho] at ho'; cases ho'; exact pb.1, pb.2.1⟩
    have len : (wipe σ vs).length = σ2.length := by rw [← hw, wipe_length]
    have free' : Inv Y [] σ2 G' y' := I'.unpinned
    exact ⟨m, lt, i + 1, G', free'.weak len fun j v e => (wipe_some (by rw [hw]; exact e)).1, T.keep _ _ _ t1 fun b hb => (pinned b hb).1, fun b hb => (pinned b hb).2, w'⟩
  cases b with
  | false =>
    rw [if_neg Bool.false_ne_true] at q3 ⊢
    exact next I3 q3
  | true =>
    rw [if_pos rfl] at q3 ⊢
    refine noX (pe.run _ y3 σ2 G3 _ I3 q3) fun v y4 ⟨yv, G4, I4, r4, acc, hD, room, q4⟩ => ?_
    exact app_ok I4 hD room r4 fun y5 I5 => next I5 q4
end
section
variable {X : Cx} {C : Cx → Prop}
/-- the comprehension: what is shown of its parts may lean on the state ahead of the block -/
theorem lcQ_core {pins pn : List (Addr × Obj)} {s : Shared} {σ : L2.St} {H : Hp} {Q : VK} {elt tg iter : Expr} {ifs : List Expr} {scope : Scope} {own : List (Str × Nat)} {pos pos' : Pos} {wi : TI} {g : TG} {tt : TT} {te : TE} {use : Option (Value → Sem Unit)} {Qf : Value → Shared → Prop}
    (hC : ∀ (z : Shared) (G : Hp) (ce : Env) (fp : List Addr), C (blkQ X z G scope ce fp pn)) (hN : X.N.Nodup) (I : Inv X pins σ H s) (hpn : ∀ q ∈ pn, q ∈ X.pn ++ pins) (hi : PIC C X tg iter wi) (ok : BlkOk X.N X.env.scope scope own)
    (hp : ∀ (z : Shared) (G : Hp) (A : Addr) (cl : List (Str × Addr)) (fp : List Addr), Inv X pins σ G z → (∀ b ∈ fp, FpOk X pins G b) → let Y := blkQ X z G scope (compEnvC scope cl A X.env) fp pn; PG Y tg g ∧ PTs Y ifs tt ∧ PE Y elt te)
    (hs : ∀ x, foldedSetIterable iter X.env x = pure x) (h : tLc wi g tt te (own.map (·.2)) σ H Q)
    (fin : ∀ D A z m G, Inv X pins σ G z → Q (.ref D) G → z.heap.Ns A m → FpOk X pins G A → compPost (model X.prog X.w) X.A X.xe use Qf (.ref D) A (.ok .next) z) :
    wpAny (model X.prog X.w) X.A (comprehension (.ListComp elt [⟨tg, iter, ifs, 0⟩] scope pos) scope X.env pos' (newList []) false (eval iter X.env) use) Qf X.xe s := by
  have clos : ∀ y ∈ scope.names, y.2 = .free → ∃ c, X.env.cells.lookup y.1 = some c := fun y hy e => I.ok.has _ ((ok.free y hy e).imp id id)
  refine wpAny_comprehension_free (use := use) rfl hs (closure_ok clos) ok.kind (fun y hy e => e ▸ ok.uniq y hy) (thn (hi.run pins s σ H _ I h) fun v z1 h1 => thn h1 fun w z2 h2 => ?_)
  obtain ⟨it, fp, tn, J, G2, rfl, I2, T, t2, f2, q⟩ := h2
  refine wpAny_newObj_type (newEnv_comp ?_) (by show 0 ≤ sizeLine; decide)
  have n2 : G2 z2.heap.objs.size = none := I2.hok.fresh (Nat.le_refl _)
  obtain ⟨W, ⟨m0, w0⟩, turns⟩ := q _ n2
  obtain ⟨D, eD⟩ : ∃ D, D = z2.heap.objs.size := ⟨_, rfl⟩
  rw [← eD] at n2 w0 turns ⊢
  obtain ⟨z3, ez⟩ : ∃ z3 : Shared, z3 = { z2 with heap := z2.heap.push { cls := .type "list", data := .seq ([] : List Value).toArray } } := ⟨_, rfl⟩
  have I3 : Inv X pins σ (upd G2 D (.lst [])) z3 := by
    rw [ez]
    exact I2.laid (t' := z2.toks) (fun b o e => Heap.get?_push_of_some _ e) (Nat.le_of_eq eD.symm) ⟨Nat.zero_le _, [], 0, .nil, by rw [eD]; exact Heap.get?_push_size _ rfl⟩
  have up : ∀ b o, z2.heap.get? b = some o → z3.heap.get? b = some o := fun b o e => by rw [ez]; exact Heap.get?_push_of_some _ e
  have f3 : ∀ b ∈ fp, FpOk X pins (upd G2 D (.lst [])) b ∧ b < z3.heap.objs.size := fun b hb => by
    obtain ⟨o, e, _⟩ := T.obj _ _ t2 b hb
    have lt := Heap.lt_size e
    exact ⟨⟨by rw [upd_ne (by rw [eD]; exact Nat.ne_of_lt lt)]; exact (f2 b hb).1, (f2 b hb).2⟩, Heap.lt_size (up b o e)⟩
  have t3 : tn 0 z3.heap := T.keep _ _ _ t2 fun b _ o e => up b o e
  obtain ⟨G3, eG⟩ : ∃ G3, G3 = upd G2 D (.lst []) := ⟨_, rfl⟩
  rw [← eG] at I3 f3 w0
  obtain ⟨pg, pt, pe⟩ := hp z3 G3 z3.heap.objs.size (cellsFrom (z3.heap.objs.size + 1) scope.names (cloFrom X.env.cells scope.names [])) fp I3 fun b hb => (f3 b hb).1
  have J4 := blkQ_start (pn := pn) I3 ok hN f3 hpn
  have t4 : tn 0 (pushCells (z3.heap.push { cls := .type "dict", data := .dict #[] }) scope.names) := T.keep _ _ _ t3 fun b _ o e => pushCells_keeps _ _ _ _ (Heap.get?_push_of_some _ e)
  rw [show ({ z2 with heap := z2.heap.push { cls := .type "list", data := .seq ([] : List Value).toArray } } : Shared) = z3 from ez.symm]
  show codeAny _ _ (.compStart (.ListComp elt [⟨tg, iter, ifs, 0⟩] scope pos) 0 (.ref it) (.ref D) (compEnvC scope (cellsFrom (z3.heap.objs.size + 1) scope.names (cloFrom X.env.cells scope.names [])) z3.heap.objs.size X.env)) (compPost (model X.prog X.w) X.A X.xe use Qf (.ref D) z3.heap.objs.size) { z3 with heap := pushCells (z3.heap.push { cls := .type "dict", data := .dict #[] }) scope.names }
  have okY := J4.ok
  have walk := compLoop_any (prog := X.prog) (w := X.w) (A := X.A) (elt := elt) (target := tg) (iter := iter) (ifs := ifs) (scope := scope) (pos := pos) (it := .ref it) (acc := .ref D) (env := compEnvC scope (cellsFrom (z3.heap.objs.size + 1) scope.names (cloFrom X.env.cells scope.names [])) z3.heap.objs.size X.env)
    (R := compPost (model X.prog X.w) X.A X.xe use Qf (.ref D) z3.heap.objs.size) (LcAt (blkQ X z3 G3 scope (compEnvC scope (cellsFrom (z3.heap.objs.size + 1) scope.names (cloFrom X.env.cells scope.names [])) z3.heap.objs.size X.env) fp pn) tn fp W (wipe σ (own.map (·.2))))
    (fun n z st => lcQ_turn (B := fun _ => True) (hC _ _ _ _) rfl T pg pt pe (fun b hb G e => ⟨e, (okY.exf b hb).1, okY.exfs b hb, .inl hb, (okY.exf b hb).2, fun q hq => (f3 b hb).1.2.2.2.2.2 q (hpn q (by rw [List.append_nil] at hq; exact hq))⟩) turns (fun G z' I' qQ => ?_) st) m0 ⟨0, G3, J4, t4, fun b hb => (f3 b hb).1.1, w0⟩
  · exact codeAny_compStart_list walk (T.self X.A 0 _ _ _ t4 walk)
  · obtain ⟨m, hn, _⟩ := I'.loc
    have nA : G z3.heap.objs.size = none := I'.free
    exact fin D _ z' m G (blkQ_back I3 (fun b hb => (f3 b hb).1) I') qQ hn (I3.fpOk (Nat.le_refl _) nA)
end
end BkG
end
section
namespace BkG
open PySem PySem.Spec PyProof.Rows L2 HotX
/-! ### ends of walks while an exception is handled -/
section
variable {prog : Program} {w : World} {A : Around} {E : Value → Shared → Prop} {s : Shared}
/-- a StopIteration is made -/
theorem newStop {Q : Value → Shared → Prop} (h : ∀ (h' : Heap) (e : Addr) (oe : Obj) (vs : Array Value), (∀ b o, s.heap.get? b = some o → h'.get? b = some o) → h'.get? e = some oe → oe.cls = .type "StopIteration" → oe.data = .fields vs → 2 < vs.size → s.heap.get? e = none → Q (.ref e) { s with heap := h' }) :
    wpAny (model prog w) A (newExc (.type "StopIteration") []) Q E s := by
  unfold newExc newTuple
  refine wpAny_bind (wpAny_newObj_type (wpAny_bind (m := firstArgMember _ _) (wpAny_of_eq (a := Value.none) (by first | rfl | (simp only [firstArgMember]; rfl)) (wpAny_newObj_type (h _ _ _ _ (fun b o e => Heap.get?_push_of_some _ (Heap.get?_push_of_some _ e)) (Heap.get?_push_size _ rfl) rfl rfl (by rw [Array.size_append]; exact Nat.lt_of_lt_of_le (by decide : 2 < 6) (Nat.le_add_right 6 _)) (Heap.get?_none_of_le (by rw [Heap.size_push]; exact Nat.le_succ _))) (by size_fits)))) (by size_fits))
/-- and raised -/
theorem stop_raised {x1 : Addr} {Q : Fin → Shared → Prop} (hot : HotAt A x1 s.heap) (hE : ∀ (h' : Heap) (e : Addr), (∀ b o, s.heap.get? b = some o → h'.get? b = some o) → (∃ o, h'.get? e = some o ∧ o.cls = .type "StopIteration") → E (.ref e) { s with heap := h' }) :
    wpAny (model prog w) A Builtin.SmallTypes.stopIteration Q E s := by
  obtain ⟨hh, o1, vs1, g1, d1, c1⟩ := hot
  show wpAny _ _ (newExc (.type "StopIteration") [] >>= fun _ => _) _ _ _
  refine wpAny_bind (newStop fun h' e oe vs kp he hc hd hz hn => ?_)
  have ne : x1 ≠ e := fun z => by rw [z, hn] at g1; cases g1
  refine raiseNew_hot (s := { s with heap := h' }) ⟨hh, o1, vs1, kp _ _ g1, d1, c1⟩ ne he hd hz (hE _ _ (fun b o hb => ?_) ⟨_, Heap.get?_update_self _ he (Obj.isFreed_of_fields (Obj.data_mapFields hd _)), (Obj.cls_mapFields ..).trans hc⟩)
  exact (Heap.get?_update_other _ _ (fun z => by rw [← z, hn] at hb; cases hb)).trans (kp b o hb)
/-- a tuple's iterator at its end -/
theorem next_tup_endH {it t x1 : Addr} {i : Nat} {items : Array Value} {Q : Option Value → Shared → Prop} (hot : HotAt A x1 s.heap) (ne : x1 ≠ it) (hi : IsTupIter s.heap it t i) (ht : IsTup s.heap t items) (hx : items[i]? = none)
    (hQ : ∀ h', Heap.ExtBut it s.heap h' → Q none { s with heap := h' }) : wpAny (model prog w) A (pyNext (.ref it)) Q E s := by
  obtain ⟨hh, o1, vs1, g1, d1, c1⟩ := hot
  obtain ⟨oi, gi, ci, di⟩ := id hi
  obtain ⟨ot, gt, _, nt, dt⟩ := ht
  unfold pyNext
  refine wpAny_bind (wpAny_attempt (wpAny_callSpecial?_slot (name := Str.ofString "__next__") hi.typeIs slot_tupleiter_next (wpAny_call_entry slot_tupleiter_next hi.typeIs entry_tupleiter_next ?_ (args_tupleiter_next _))))
  show wpAny _ _ (field (.ref it) 0 >>= fun _ => _) _ _ s
  refine wpAny_bind (wpAny_field gi di (x := .ref t) rfl ?_)
  show wpAny _ _ (if (Value.ref t == Value.none) = true then _ else field (.ref it) 1 >>= _) _ _ s
  rw [if_neg (by exact Bool.false_ne_true)]
  refine wpAny_bind (wpAny_field gi di (x := .int i 0) rfl (wpAny_bind (wpAny_seqItems gt dt ?_)))
  simp only [Int.toNat_natCast, hx]
  refine wpAny_bind (wpAny_rule (wpAny_bind (wpAny_setField gi di (by simp) ?_)))
  have g1' : ∀ f, (s.heap.update it f).get? x1 = some o1 := fun f => (Heap.get?_update_other _ _ (Ne.symm ne)).trans g1
  refine stop_raised (x1 := x1) ?_ fun h' e kp he => ?_
  · exact ⟨hh, o1, vs1, g1' _, d1, c1⟩
  refine wpAny_bind (wpAny_isInstance (T := "StopIteration") (b := true) he isSubtype_stop (wpAny_pure (hQ h' fun b o hb ho => ?_)))
  exact kp b o ((Heap.get?_update_other _ _ (Ne.symm hb)).trans ho)
/-- a tuple is unpacked -/
theorem unpackH {t x1 : Addr} {items : Array Value} {Q : List Value → Shared → Prop} (hot : HotAt A x1 s.heap) (ht : IsTup s.heap t items) (hQ : ∀ h', (∀ b o, s.heap.get? b = some o → h'.get? b = some o) → Q items.toList { s with heap := h' }) :
    wpAny (model prog w) A (unpackItems (.ref t) items.size none) Q E s := by
  have lt : t < s.heap.objs.size := by obtain ⟨o, ho, _⟩ := ht; exact Heap.lt_size ho
  obtain ⟨hh, o1, vs1, g1, d1, c1⟩ := hot
  have lt1 := Heap.lt_size g1
  have whole : (items.toList.drop 0).take items.size = items.toList := List.take_of_length_le (by simp)
  unfold unpackItems notIterableAtAll
  refine wpAny_bind (wpAny_bind (wpAny_specialOf ht.typeIs slot_tuple_iter.lookup (wpAny_pure ?_)))
  simp only [Bool.false_eq_true, if_false]
  refine wpAny_bind (wpAny_holding (iter_tuple ht (wpAny_bind (wpAny_holding (draw_tuple (Nat.ne_of_lt lt) items.size 0 _ _ ⟨_, Heap.get?_push_size _ rfl, rfl, rfl⟩ (ht.push _) (by omega) fun h1 hit hs => ?_)))))
  rw [whole, if_neg (by simp)]
  have kp : ∀ b o, s.heap.get? b = some o → h1.get? b = some o := fun b o e => hs.extBut b o (Nat.ne_of_lt (Heap.lt_size e)) (Heap.get?_push_of_some _ e)
  refine wpAny_bind (wpAny_holding (next_tup_endH (x1 := x1) (s := { s with heap := h1 }) ⟨hh, o1, vs1, kp _ _ g1, d1, c1⟩ (Nat.ne_of_lt lt1) hit ((ht.push _).extBut hs.extBut (Nat.ne_of_lt lt)) (by simp) fun h2 e2 => ?_))
  simp only [Option.isSome_none, Bool.false_eq_true, if_false]
  exact wpAny_pure (hQ h2 fun b o e => e2 b o (Nat.ne_of_lt (Heap.lt_size e)) (kp b o e))
end
section
variable {X : Cx}
/-- (a, b, ..) = a tuple of that length, within an except suite -/
theorem pg_tupH {es : List Expr} {k n : Nat} {t : TGs} {pos : Pos} (hc : L2H.HotC X) (h : PGs X es t) (hn : (assignEach es X.env).length = n := by rfl) (hst : (assignEach es X.env).findIdx? (·.1) = none := by rfl) : PG X (.Tuple es k pos) (gTup X.K n t) := by
  refine ⟨fun pins s σ H v u Q I r ⟨a, xs, ev, hq, hl, q⟩ => ?_⟩
  subst ev
  cases r
  obtain ⟨its, rv, ht, -⟩ := I.tuple hq
  obtain ⟨x1, hot⟩ := hc.at I
  have hz : (assignEach es X.env).length = its.toArray.size := by simp [hn, ← hl, rv.length]
  rw [assign_Tuple]
  refine wpAny_bind (wpAny_standAt ?_)
  unfold unpack
  rw [hz, hst]
  exact wpAny_bind (wpAny_holding (unpackH hot ht fun h' kp => h.run pins _ σ H xs _ Q (I.kept (t' := s.toks) kp) (by simpa using rv) q))
end
section
variable {prog : Program} {w : World} {A : Around} {E : Value → Shared → Prop} {s : Shared}
/-- the next of a tuple's iterator at its end -/
theorem nextOf_endH {it l x1 : Addr} {i : Nat} {items : Array Value} {Q : Value → Shared → Prop} (hot : HotAt A x1 s.heap) (ne : x1 ≠ it) (hi : s.heap.IsTupleIter it l i) (ht : s.heap.IsTuple l items) (hx : items[i]? = none)
    (hE : ∀ h' e, (∀ b o, b ≠ it → s.heap.get? b = some o → h'.get? b = some o) → (∃ o, h'.get? e = some o ∧ o.cls = .type "StopIteration") → E (.ref e) { s with heap := h' }) : wpAny (model prog w) A (Builtin.SmallTypes.nextOf (.ref it)) Q E s := by
  obtain ⟨hh, o1, vs1, g1, d1, c1⟩ := hot
  obtain ⟨oi, gi, ci, di⟩ := id hi
  obtain ⟨ot, gt, _, nt, dt⟩ := ht
  unfold Builtin.SmallTypes.nextOf
  refine wpAny_bind (wpAny_callSpecial?_slot (name := Str.ofString "__next__") hi.typeIs F.slot_tuple_iterator_next (wpAny_call_entry F.slot_tuple_iterator_next hi.typeIs F.entry_tuple_iterator_next ?_ (F.args_tuple_iterator_next_1 _)))
  show wpAny _ _ (field (.ref it) 0 >>= fun _ => _) _ _ s
  refine wpAny_bind (wpAny_field gi di (x := .ref l) rfl ?_)
  show wpAny _ _ (if (Value.ref l == Value.none) = true then _ else field (.ref it) 1 >>= _) _ _ s
  rw [if_neg (by exact Bool.false_ne_true)]
  refine wpAny_bind (wpAny_field gi di (x := .int i 0) rfl (wpAny_bind (wpAny_seqItems gt dt ?_)))
  simp only [Int.toNat_natCast, hx]
  refine wpAny_bind (wpAny_rule (wpAny_bind (wpAny_setField gi di (by simp) ?_)))
  have g1' : ∀ f, (s.heap.update it f).get? x1 = some o1 := fun f => (Heap.get?_update_other _ _ (Ne.symm ne)).trans g1
  refine stop_raised (x1 := x1) ?_ fun h' e kp he => hE h' e (fun b o hb ho => kp b o ((Heap.get?_update_other _ _ (Ne.symm hb)).trans ho)) he
  exact ⟨hh, o1, vs1, g1' _, d1, c1⟩
open RZ in
/-- the step of zip of two tuples, one of them at its end -/
theorem zipStep_endH {z TI TO i1 i2 l1 l2 x1 : Addr} {k1 k2 : Nat} {xs ys : Array Value} {a b : Value} {Q : Fin → Shared → Prop} (hot : HotAt A x1 s.heap) (nz : x1 ≠ z) (nT : x1 ≠ TO) (n1 : x1 ≠ i1) (n2 : x1 ≠ i2) (D : ZipApart z TI TO i1 i2 l1 l2)
    (hz : IsZip s.heap z TI TO .none) (hI : IsPair s.heap TI (.ref i1) (.ref i2)) (hO : IsPair s.heap TO a b) (h1 : s.heap.IsTupleIter i1 l1 k1) (h2 : s.heap.IsTupleIter i2 l2 k2) (t1 : s.heap.IsTuple l1 xs) (t2 : s.heap.IsTuple l2 ys) (hend : xs[k1]? = none ∨ ys[k2]? = none)
    (hE : ∀ h' e, (∀ c o, c ≠ z → c ≠ TO → c ≠ i1 → c ≠ i2 → s.heap.get? c = some o → h'.get? c = some o) → (∃ o, h'.get? e = some o ∧ o.cls = .type "StopIteration") → E (.ref e) { s with heap := h' }) : wpAny (model prog w) A (Builtin.«zip.__next__» ⟨[.ref z], []⟩) Q E s := by
  obtain ⟨hh, o1, vs1, g1, d1, c1⟩ := hot
  show wpAny _ _ (field (.ref z) 2 >>= fun _ => _) _ _ s
  refine wpAny_bind (wpAny_field hz rfl (x := .bool false) rfl ?_)
  show wpAny _ _ (field (.ref z) 3 >>= fun _ => _) _ _ s
  refine wpAny_bind (wpAny_field hz rfl (x := .ref TI) rfl (wpAny_bind (wpAny_seqItems hI rfl ?_)))
  show wpAny _ _ (Builtin.SmallTypes.ownedTupleIsFree (.ref z) >>= fun _ => _) _ _ s
  unfold Builtin.SmallTypes.ownedTupleIsFree
  refine wpAny_bind (wpAny_bind (wpAny_field hz rfl (x := .none) rfl (wpAny_pure ?_)))
  simp only [if_true]
  refine wpAny_bind (wpAny_rule (wpAny_bind (wpAny_field hz rfl (x := .ref TO) rfl (wpAny_bind (wpAny_setField_rec hz (by simp) fun m1 hz1 s1 => ?_)))))
  replace hz1 : IsZip m1 z TI TO .ellipsis := hz1
  simp only [List.zipIdx_cons, List.zipIdx_nil, List.forIn_cons, List.forIn_nil]
  have up1 := s1.extBut
  have first1 : m1.IsTupleIter i1 l1 k1 := h1.extBut up1 D.i1z
  have tup1 : m1.IsTuple l1 xs := t1.extBut up1 D.l1z
  refine wpAny_bind (wpAny_bind (wpAny_bind (wpAny_onRaise ?_)))
  show wpAny _ _ (Builtin.SmallTypes.nextOf (.ref i1) >>= fun _ => _) _ _ _
  cases hx : xs[k1]? with
  | none =>
    refine wpAny_bind (nextOf_endH (x1 := x1) (s := { s with heap := m1 }) ⟨hh, o1, vs1, up1 _ _ nz g1, d1, c1⟩ n1 first1 tup1 hx fun m2 e k2' ⟨oe, ge, ce⟩ => ?_)
    have hz2 : IsZip m2 z TI TO .ellipsis := k2' _ _ (Ne.symm D.i1z) hz1
    have ez : e ≠ z := fun q => by rw [q, hz2] at ge; cases ge; simp at ce
    exact wpAny_setField_rec hz2 (by simp) fun m3 _ s3 => hE m3 e (fun c o a1 _ a3 _ g => s3.extBut _ _ a1 (k2' _ _ a3 (up1 _ _ a1 g))) ⟨oe, s3.extBut _ _ ez ge, ce⟩
  | some x =>
    have hy : ys[k2]? = none := hend.resolve_left (by rw [hx]; exact fun q => by cases q)
    refine wpAny_bind (nextOf_tuple_item first1 tup1 hx fun m2 first2 s2 => wpAny_pure ?_)
    have up2 := s2.extBut
    have hO2 : IsPair m2 TO a b := up2 _ _ D.TOi1 (up1 _ _ D.TOz hO)
    refine wpAny_bind (wpAny_seqItems hO2 rfl (wpAny_bind (wpAny_updateSeq_pair hO2 fun m3 hO3 s3 => wpAny_bind (wpAny_letGo (wpAny_pure (wpAny_bind (wpAny_bind (wpAny_onRaise ?_))))))))
    show wpAny _ _ (Builtin.SmallTypes.nextOf (.ref i2) >>= fun _ => _) _ _ _
    have up3 := s3.extBut
    have g3 : m3.get? x1 = some o1 := up3 _ _ nT (up2 _ _ n1 (up1 _ _ nz g1))
    refine wpAny_bind (nextOf_endH (x1 := x1) (s := { s with heap := m3 }) ⟨hh, o1, vs1, g3, d1, c1⟩ n2 (((h2.extBut up1 D.i2z).extBut up2 (Ne.symm D.i12)).extBut up3 (Ne.symm D.TOi2)) (((t2.extBut up1 D.l2z).extBut up2 D.l2i1).extBut up3 D.l2TO) hy fun m4 e k4 ⟨oe, ge, ce⟩ => ?_)
    have hz4 : IsZip m4 z TI TO .ellipsis := k4 _ _ (Ne.symm D.i2z) (up3 _ _ (Ne.symm D.TOz) (up2 _ _ (Ne.symm D.i1z) hz1))
    have ez : e ≠ z := fun q => by rw [q, hz4] at ge; cases ge; simp at ce
    exact wpAny_setField_rec hz4 (by simp) fun m5 _ s5 => hE m5 e (fun c o a1 a2 a3 a4 g => s5.extBut _ _ a1 (k4 _ _ a4 (up3 _ _ a2 (up2 _ _ a3 (up1 _ _ a1 g))))) ⟨oe, s5.extBut _ _ ez ge, ce⟩
open RZ in
/-- zip of two tuples at its end -/
theorem zip_endH {z TI TO i1 i2 l1 l2 x1 : Addr} {k1 k2 : Nat} {xs ys : Array Value} {a b : Value} {Q : Option Value → Shared → Prop} (hot : HotAt A x1 s.heap) (nz : x1 ≠ z) (nT : x1 ≠ TO) (n1 : x1 ≠ i1) (n2 : x1 ≠ i2) (D : ZipApart z TI TO i1 i2 l1 l2)
    (hz : IsZip s.heap z TI TO .none) (hI : IsPair s.heap TI (.ref i1) (.ref i2)) (hO : IsPair s.heap TO a b) (h1 : s.heap.IsTupleIter i1 l1 k1) (h2 : s.heap.IsTupleIter i2 l2 k2) (t1 : s.heap.IsTuple l1 xs) (t2 : s.heap.IsTuple l2 ys) (hend : xs[k1]? = none ∨ ys[k2]? = none)
    (hQ : ∀ h', (∀ c o, c ≠ z → c ≠ TO → c ≠ i1 → c ≠ i2 → s.heap.get? c = some o → h'.get? c = some o) → Q none { s with heap := h' }) : wpAny (model prog w) A (pyNext (.ref z)) Q E s := by
  have ty : s.TypeIs (.ref z) "zip" := ⟨_, hz, rfl⟩
  unfold pyNext
  exact wpAny_bind (wpAny_attempt (wpAny_callSpecial?_slot (name := Str.ofString "__next__") ty F.slot_zip_next (wpAny_call_entry F.slot_zip_next ty F.entry_zip_next
    (zipStep_endH (x1 := x1) hot nz nT n1 n2 D hz hI hO h1 h2 t1 t2 hend fun h' e hk he => wpAny_bind (wpAny_isInstance (T := "StopIteration") (b := true) he isSubtype_stop (wpAny_pure (hQ h' hk)))) (F.args_zip_next_1 _))))
end
end BkG
end
section
namespace BkG
open PySem PySem.Spec PyProof.Rows L2 HotX RZ
/-! ### comprehensions within an except suite -/
/-- zip of two tuples -/
theorem turn_zipH {P : Program} {w : World} {K : PySem.W.Frag} {elts : List Expr} {kk : Nat} {tpos : Pos} {a b z TI TO i1 i2 : Addr} (D : ZipApart z TI TO i1 i2 a b) :
    TurnC L2H.HotC P w K (.Tuple elts kk tpos) (ItzT K a b) [z, TI, TO, i1, i2] z (fun i h => IsZip h z TI TO .none ∧ IsPair h TI (.ref i1) (.ref i2) ∧ (∃ x y, IsPair h TO x y) ∧ h.IsTupleIter i1 a i ∧ h.IsTupleIter i2 b i) where
  mem := List.mem_cons_self
  obj := (turn_zipT (P := P) (w := w) (K := K) (elts := elts) (kk := kk) (tpos := tpos) D).obj
  keep := (turn_zipT (P := P) (w := w) (K := K) (elts := elts) (kk := kk) (tpos := tpos) D).keep
  self := (turn_zipT (P := P) (w := w) (K := K) (elts := elts) (kk := kk) (tpos := tpos) D).self
  item := fun Y e1 e2 e3 hc i pins s σ H I f ⟨hz, hI, ⟨x0, y0, hO⟩, h1, h2⟩ ⟨xs, ys, x, y, sx, sy, gx, gy⟩ => by
    subst e1 e2 e3
    obtain ⟨us, rx, tx, -⟩ := I.tuple sx
    obtain ⟨vs, ry, ty, -⟩ := I.tuple sy
    obtain ⟨u, gu, ru⟩ := rx.get gx
    obtain ⟨v, gv, rv⟩ := ry.get gy
    have lz : z < s.heap.objs.size := Heap.lt_size hz
    refine pyNext_zipT_item D hz hI hO h1 h2 tx ty (x := u) (y := v) (by simpa using gu) (by simpa using gv) fun m hz' hO' h1' h2' hT hsz kp => ⟨_, rfl, wpAny_letOwnedTupleGo_zip (s := { s with heap := m }) hz' fun m2 hz2 sb => ?_⟩
    have up : ∀ c, c ≠ z → m2.get? c = m.get? c := fun c hc => sb.2 c hc
    have all : ∀ c o, c ∉ [z, TI, TO, i1, i2] → s.heap.get? c = some o → m2.get? c = some o := fun c o hn g => by
      simp only [List.mem_cons, List.not_mem_nil, or_false, not_or] at hn
      exact (up c hn.1).trans (kp c o hn.1 hn.2.2.1 hn.2.2.2.1 hn.2.2.2.2 g)
    have new : ObjOk Y.prog Y.w (upd H s.heap.objs.size (.tup [x, y])) m2 s.heap.objs.size (.tup [x, y]) := ⟨by show 2 ≤ sizeLine; decide, [u, v], .cons ru (.cons rv .nil), ⟨_, (up _ (Nat.ne_of_gt lz)).trans hT, rfl, _, rfl⟩⟩
    have J : Inv Y pins σ (upd H s.heap.objs.size (.tup [x, y])) { s with heap := m2 } := I.turnedNew (t' := s.toks) (ch := [z, TI, TO, i1, i2]) all f (Nat.le_refl _) new
    refine ⟨.ref s.heap.objs.size, _, J, rfl, ⟨_, x, y, rfl, I.hok.fresh (Nat.le_refl _), rfl, fun l hl => by rw [I.tuple_inj hl sx]; exact gx, fun l hl => by rw [I.tuple_inj hl sy]; exact gy⟩,
      ⟨hz2, (up _ D.TIz).trans (kp _ _ D.TIz D.TITO D.TIi1 D.TIi2 hI), ⟨u, v, (up _ D.TOz).trans hO'⟩, h1'.at fun o q => (up _ D.i1z).trans q, h2'.at fun o q => (up _ D.i2z).trans q⟩, fun c hcm => ?_⟩
    obtain ⟨o, g, -⟩ := (turn_zipT (P := Y.prog) (w := Y.w) (K := Y.K) (elts := elts) (kk := kk) (tpos := tpos) D).obj i s.heap ⟨hz, hI, ⟨x0, y0, hO⟩, h1, h2⟩ c hcm
    rw [upd_ne (Nat.ne_of_lt (Heap.lt_size g))]
    exact (f c hcm).1
  done := fun Y e1 e2 e3 hc i pins s σ H I f ⟨hz, hI, ⟨x0, y0, hO⟩, h1, h2⟩ ⟨xs, ys, sx, sy, hend⟩ => by
    subst e1 e2 e3
    obtain ⟨us, rx, tx, -⟩ := I.tuple sx
    obtain ⟨vs, ry, ty, -⟩ := I.tuple sy
    obtain ⟨p, hot, hp⟩ := hc
    have pn : ∀ c ∈ [z, TI, TO, i1, i2], p.1 ≠ c := fun c hc => (f c hc).2.2.2.2.2 p (List.mem_append_left _ hp)
    obtain ⟨hh, v1, e1, c1⟩ := hot
    refine zip_endH (x1 := p.1) ⟨hh, p.2, v1, (I.pin p (List.mem_append_left _ hp)).1, e1, c1⟩ (pn _ (by simp)) (pn _ (by simp)) (pn _ (by simp)) (pn _ (by simp)) D hz hI hO h1 h2 tx ty ?_ fun m kp => ⟨rfl, I.turnedL (t' := s.toks) (ch := [z, TI, TO, i1, i2]) (fun c o hn g => ?_) f⟩
    · have l1 := rx.length
      have l2 := ry.length
      exact hend.imp (fun q => by simp; omega) (fun q => by simp; omega)
    · simp only [List.mem_cons, List.not_mem_nil, or_false, not_or] at hn
      exact kp c o hn.1 hn.2.2.1 hn.2.2.2.1 hn.2.2.2.2 g
def iZipTT (K : PySem.W.Frag) (ta : TA) : TI := fun σ H R => ta σ H fun vs H1 => ∃ a b xs ys, vs = [.ref a, .ref b] ∧ SqT K H1 a xs ∧ SqT K H1 b ys ∧ R (ItzT K a b) H1
section
variable {X : Cx}
theorem pi_zipH {e e2 : Expr} {ta : TA} {p pos tpos : Pos} {elts : List Expr} {kk : Nat} (hg : Gl X "zip") (hm : X.mg "zip" = none) (ha : PA X [e, e2] ta)
    (hs : starEach [e, e2] X.env = (false, eval e X.env) :: starEach [e2] X.env := by rfl) (hpl : (backTo pos (starEach [e2] X.env)).any (·.1) = false := by rfl) :
    PIC L2H.HotC X (.Tuple elts kk tpos) (.Call (.Name "zip" p) [e, e2] [] pos) (iZipTT X.K ta) := by
  refine ⟨fun pins s σ H R I h => Call_ (ld_blt I hg hm PyProof.Rows.boot_zip (PyProof.Rows.callWith_type1 (thn (ha.run pos pins s σ H _ I h) fun us z ⟨vs, H1, I1, r1, a, b, xs, ys, ev, sx, sy, q⟩ => ?_) hs hpl))⟩
  subst ev
  rcases r1 with _ | ⟨r, rr⟩
  rcases rr with _ | ⟨r', rr⟩
  cases rr
  cases r
  cases r'
  obtain ⟨is, -, tx, -⟩ := I1.tuple sx
  obtain ⟨js, -, ty, -⟩ := I1.tuple sy
  obtain ⟨o1, g1, -⟩ := id tx
  obtain ⟨o2, g2, -⟩ := id ty
  refine call_zipT (show z.heap.IsTuple a is.toArray from tx) (show z.heap.IsTuple b js.toArray from ty) fun m hz hI hO h1 h2 hsz kp => wpAny_pyIter_zip hz ⟨z.heap.objs.size + 4, [z.heap.objs.size + 4, z.heap.objs.size + 2, z.heap.objs.size + 3, z.heap.objs.size, z.heap.objs.size + 1], _, _, H1, rfl, I1.kept (t' := z.toks) kp,
    turn_zipH (PySem.W.ktu_apart z.heap.objs.size a b (Heap.lt_size g1) (Heap.lt_size g2)), ⟨hz, hI, ⟨_, _, hO⟩, h1, h2⟩, fun c hc => ?_, q⟩
  have le : z.heap.objs.size ≤ c := by
    have hc : c = z.heap.objs.size + 4 ∨ c = z.heap.objs.size + 2 ∨ c = z.heap.objs.size + 3 ∨ c = z.heap.objs.size ∨ c = z.heap.objs.size + 1 := by simpa using hc
    rcases hc with q | q | q | q | q <;> rw [q] <;> first | exact Nat.le_refl _ | exact Nat.le_add_right _ _
  exact I1.fpOk le (I1.hok.fresh le)
/-- a list comprehension within an except suite (its block knows the exception too) -/
theorem pe_lcH {p : Addr × Obj} {elt tg iter : Expr} {ifs : List Expr} {scope : Scope} {own : List (Str × Nat)} {pos : Pos} {wi : TI} {g : TG} {tt : TT} {te : TE} (hot : L2H.Hot1 X.A p) (hp : p ∈ X.pn) (hN : X.N.Nodup) (hi : PIC L2H.HotC X tg iter wi) (ok : BlkOk X.N X.env.scope scope own)
    (hq : ∀ (z : Shared) (G : Hp) (C : Addr) (cl : List (Str × Addr)) (fp : List Addr), PG (blkQ X z G scope (compEnvC scope cl C X.env) fp [p]) tg g ∧ PTs (blkQ X z G scope (compEnvC scope cl C X.env) fp [p]) ifs tt ∧ PE (blkQ X z G scope (compEnvC scope cl C X.env) fp [p]) elt te)
    (hs : ∀ x, foldedSetIterable iter X.env x = pure x := by intro _; rfl) : PE X (.ListComp elt [⟨tg, iter, ifs, 0⟩] scope pos) (tLc wi g tt te (own.map (·.2))) := by
  refine ⟨fun pins s σ H Q I h => ?_⟩
  rw [eval_ListComp]
  refine lcQ_core (C := L2H.HotC) (pn := [p]) (fun z G ce fp => ⟨p, hot, List.mem_cons_self⟩) hN I (fun q hq => by rw [List.mem_singleton.mp hq]; exact List.mem_append_left _ hp) hi ok (fun z G C cl fp _ _ => hq z G C cl fp) hs h fun D A z m G J q hn f => ⟨m, hn, fun h'' sb => ?_⟩
  obtain ⟨f0, f1, f2, f3, f4, f5⟩ := f
  exact ⟨.ref D, G, J.turned (t' := z.toks) (fun b o hb e => (sb.2 b hb).trans e) f0 f1 f3 f4 f5, rfl, q⟩
end
end BkG
end
section
namespace BkG
open PySem PySem.Spec PyProof.Rows L2
theorem _root_.L2H.RoomH.units {k : Nat} {A : Around} (r : L2H.RoomH k A) : A.units + 64 < cLine := by have := r.un; omega
/-! ### own defs that are called within an except suite -/
structure CalH (P : Program) (w : World) (K : PySem.W.Frag) (mg : Str → Option Value) (base : Heap) (k : Nat) (x : Str) (sp : Sp) : Prop where
  ex : ∃ f fd ps, L2H.FnH P w K mg base CX0 k f fd ps sp ∧ mg x = some (.ref f) ∧ PySem.W.keepIn K (.ref f) = true ∧ Binds K fd ps []
section
variable {P : Program} {w : World} {K : PySem.W.Frag} {mg : Str → Option Value} {base : Heap}
theorem Fn.calH {x : Str} {st : Stmt} {N ps : List Str} {k : Nat} {sp : Sp} (F : Fn K mg x st ps) (S : FnScope N ps (defScope st)) (len : ∀ vs H Q E, sp vs H Q E → vs.length = ps.length)
    (hbody : ∀ (f : Addr) (cdv : Value) (A : Around) (outer : List Env) (s : Shared) (H : Hp) (vs : List V) (Q : VK) (E : XK) (p : Addr × Obj), L2H.Hot1 A p → L2H.RoomH k (A.deeper (envOfC x (defScope st) s.heap.objs.size f cdv)) → sp vs H Q E →
      ∃ t, PSs (L2H.cxH CX0 P w K mg base N x (defScope st) f cdv A outer s H E p) (defBody st) t ∧ t { nx := fun _ H' => Q .non H', rt := Q } (start N vs) H) : CalH P w K mg base (k + 1) x sp := by
  obtain ⟨f, fd, F1, hm, hb, _⟩ := F.ex
  have kp := F1.kp
  obtain ⟨oc, od, kV, doc, pm, an, cdv, ct, osl, rfl, lk, hcd⟩ := F1.ex
  exact ⟨f, _, ps, L2H.fn_ofH lk hcd S len fun A outer s H vs Q E p hot hr hsp => hbody f cdv A outer s H vs Q E p hot hr hsp, hm, kp, hb⟩
end
theorem roomS {k : Nat} {A : Around} {v : Option Value} (r : Room k A) : L2H.RoomH k (A.mark v) := ⟨r.dp, r.un⟩
section
variable {X : Cx}
theorem pe_cH {x : Str} {p pos : Pos} {e : Expr} {es : List Expr} {t : TA} {sp : Sp} {j k : Nat} (c : CalH X.prog X.w X.K X.mg X.base k x sp) (hr : L2H.RoomH j X.A) (hk : k ≤ j) (hc : L2H.HotC X) (hg : Gl X x) (ha : PA X (e :: es) t)
    (hdb : (x == ("__debug__" : Str)) = false := by decide) (he : starEach (e :: es) X.env = (false, eval e X.env) :: starEach es X.env := by rfl) (hpl : (backTo pos (starEach es X.env)).any (·.1) = false := by rfl) :
    PE X (.Call (.Name x p) (e :: es) [] pos) (tCallS sp (fun _ => E0) t) := by
  obtain ⟨f, fd, ps, F, hm, kp, b⟩ := c.ex
  exact L2H.pe_callH F (hr.mono hk) hc hg hm kp b (fun _ _ _ _ _ _ _ h => h.elim) ha hdb he hpl
end
end BkG
end
section
namespace BkG
open PySem PySem.Spec PyProof.Rows L2
/-! ### isinstance of an own error that a suite holds, its fields there or not -/
structure ExcI (K : PySem.W.Frag) (D : Addr) : Prop where
  cl : (PySem.W.clsIn K D).isSome = true
  ga : PySem.W.findIn K (.ref D) "__getattribute__" = some (some (.builtin "BaseException.__getattribute__"))
  gt : PySem.W.findIn K (.ref D) "__getattr__" = some none
  sb : PySem.W.subIn K (.ref D) (.type "BaseException") = some true
  ca : PySem.W.findIn K (.ref D) "__class__" = some (some (.builtin "object.__class__"))
  ob : PySem.W.mroIn K D (.type "object") = some true
structure ClsG (K : PySem.W.Frag) : Prop where
  sp : PySem.W.specialIn K (.builtin "object.__class__") "__get__" = some (some (.builtin "getset_descriptor.__get__"))
  tk : PySem.W.takesIn K (.builtin "object.__class__") = some true
def rIsX (K : PySem.W.Frag) (a : Addr) (cls : Value) (d : Option Addr) : List V → Hp → VK → Prop := fun xs H Q => ∃ (D : Addr) (c : V) (cv : Value) (b : Bool), xs = [.ref a, c] ∧ cls = .ref D ∧ (d = none ∨ ∃ dd fs, d = some dd ∧ H dd = some (.xd fs)) ∧ ExcI K D ∧ (∀ u, RelV c u → u = cv) ∧ PySem.W.kitOne K (.ref D) cv = some b ∧ Q (.bl b) H
theorem call_isX {X : Cx} {a : Addr} {oe : Obj} {pn : List (Addr × Obj)} {cls : Value} {d : Option Addr} (G : ClsG X.K) (hz : Zc cls d oe) (hf : ∃ vs, oe.data = .fields vs) : CallR (X.suite a ((a, oe) :: pn)) (.builtin "isinstance") (rIsX X.K a cls d) := by
  intro pins s σ H xs us Q I r ⟨D, c, cv, b, ex, ec, hd, C, hcv, ek, q⟩
  subst ex ec
  rcases r with _ | ⟨rx, rr⟩
  rcases rr with _ | ⟨rc, rr⟩
  cases rr
  cases rx
  have e := hcv _ rc
  subst e
  obtain ⟨get, _⟩ := I.pin (a, oe) (List.mem_append_left _ List.mem_cons_self)
  obtain ⟨vs, hv⟩ := hf
  have J : ∃ od, PySem.W.InstAt s.heap a oe D od := by
    rcases hd with rfl | ⟨dd, fs, rfl, hdd⟩
    · refine ⟨none, get, hz.1, by unfold PySem.W.notCls; rw [hv] <;> rfl, ?_⟩
      rw [hz.2]; trivial
    · obtain ⟨mA, hns, hr⟩ := (show ObjOk X.prog X.w H s.heap dd (.xd fs) from I.hok dd _ hdd)
      obtain ⟨od, ho, hl⟩ := lookIn_ns hns
      exact ⟨some od, get, hz.1, by unfold PySem.W.notCls; rw [hv] <;> rfl, by rw [hz.2]; exact ho⟩
  obtain ⟨od, J⟩ := J
  exact PySem.W.kia_one (PySem.W.kitx_exc C.cl C.ga C.gt C.sb C.ca G.sp G.tk C.ob) I.kIn J ek (fun z => nomatch z) fun tk => ⟨.bl b, H, I.kept (t' := tk) fun _ _ z => z, rfl, q⟩
section
variable {X : Cx} {C : Addr} {bmB : List Value} {B newId initId : String}
/-- an own error that is made of nothing -/
theorem pmk_own0 {x : Str} {p pos : Pos} (F : ExcBaseFacts B newId initId bmB) (q : PySem.W.excIn X.K C bmB newId = true) (gC : X.mg x = some (.ref C)) (kC : PySem.W.keepIn X.K (.ref C) = true) (r : Raises X (.ref C)) (hg : Gl X x)
    (hdb : (x == ("__debug__" : Str)) = false := by decide) : L2N.PMk X (.Call (.Name x p) [] [] pos) (fun _ H Q => Q (.ref C) none H) := by
  intro pins s σ H Q I h
  refine wpAny_Call_Name_kw (ld_glob I hg gC (PySem.W.callWith_K0 I.kIn kC ?_) hdb)
  obtain ⟨bm, N, nm, qn, bs, hdct, sn, sub, ab, col, dd, k0, k1, k2, k3, k5, mN, hC, hN, hni, T⟩ := exc_obj I.kIn q
  exact wpAny_call_exc_subT F T hC hN hni (fun h' e hm => L2N.mk_of I hm r h (I.hok.gone hm.new)) (by show 0 ≤ sizeLine; exact Nat.zero_le _)
/-- the field of the error that a suite holds, whichever class it is of -/
def tXfX (K : PySem.W.Frag) (a : Addr) (cls : Value) (d : Option Addr) (f : Str) (te : TE) : TE := fun σ H Q => te σ H fun x H1 => x = .ref a ∧ ∃ (D dd : Addr) (fs : List (Str × V)) (v : V), cls = .ref D ∧ XfC K D ∧ PySem.W.findIn K (.ref D) f = some none ∧ d = some dd ∧ H1 dd = some (.xd fs) ∧ fs.lookup f = some v ∧ Q v H1
theorem pe_xfX {a : Addr} {oe : Obj} {cls : Value} {d : Option Addr} {pn : List (Addr × Obj)} {e : Expr} {te : TE} {pos : Pos} {n : Str} (hz : Zc cls d oe) (hf : ∃ vs, oe.data = .fields vs) (he : PE (X.suite a ((a, oe) :: pn)) e te)
    (hb : attributeBase e n X.env (eval e X.env) = eval e X.env := by rfl) : PE (X.suite a ((a, oe) :: pn)) (.Attribute e n pos) (tXfX X.K a cls d n te) := by
  refine ⟨fun pins s σ H Q I h => attr_of hb (thn (he.run pins s σ H _ I h) fun u z ⟨x, G, J, rx, ex, D, dd, fs, v, ec, T, hno, ed, hdd, hl, q⟩ => ?_)⟩
  subst ex ec ed
  cases rx
  obtain ⟨get, _⟩ := J.pin (a, oe) (List.mem_append_left _ List.mem_cons_self)
  obtain ⟨vs, hv⟩ := hf
  obtain ⟨mA, hns, hr⟩ := (show ObjOk X.prog X.w G z.heap dd (.xd fs) from J.hok dd _ hdd)
  obtain ⟨od, ho, hlk⟩ := lookIn_ns hns
  obtain ⟨u', hu, ru⟩ := RelO.some_of (v := v) (o := mA n) (by rw [← hl]; exact hr n)
  have at_ : PySem.W.InstAt z.heap a oe D (some od) := ⟨get, hz.1, by unfold PySem.W.notCls; rw [hv] <;> rfl, by rw [hz.2]; exact ho⟩
  exact HandSPX.exc_get J.kIn at_ T.ga T.gg T.exC (PySem.W.findObj_own T.hdC hno rfl (by rw [hlk, hu])) (handed_of ru) ⟨v, G, J.tok _, ru, q⟩
end
/-- the exception that a suite holds -/
theorem hotN {A : Around} {a : Addr} {oe : Obj} {cls : Value} {d : Option Addr} (hz : L2N.Zn cls d oe) (hf : ∃ vs, oe.data = .fields vs) : L2H.Hot1 (A.mark (some (.ref a))) (a, oe) := by
  obtain ⟨vs, hv⟩ := hf
  exact ⟨rfl, vs, hv, hz.2.2 vs hv⟩
theorem takesN0 {X : Cx} : L2N.Takes X (fun _ _ _ _ => False) := fun _ _ x => by
  obtain ⟨_, _, _, _, _, _, _, _, _, _, _, _, _, _, _, _, z⟩ := x
  exact z.elim
/-! ### defs that raise where nothing is handled -/
structure CalN (P : Program) (w : World) (K : PySem.W.Frag) (mg : Str → Option Value) (base : Heap) (k : Nat) (x : Str) (sp : Sp) : Prop where
  ex : ∃ f fd ps, FnOk P w K mg base (L2N.CX P w) k f fd ps sp ∧ mg x = some (.ref f) ∧ PySem.W.keepIn K (.ref f) = true ∧ Binds K fd ps []
section
variable {P : Program} {w : World} {K : PySem.W.Frag} {mg : Str → Option Value} {base : Heap}
theorem Fn.calN {x : Str} {st : Stmt} {N ps : List Str} {k : Nat} {sp : Sp} (F : Fn K mg x st ps) (S : FnScope N ps (defScope st)) (len : ∀ vs H Q E, sp vs H Q E → vs.length = ps.length)
    (hbody : ∀ (f : Addr) (cdv : Value) (A : Around) (outer : List Env) (s : Shared) (H : Hp) (vs : List V) (Q : VK) (E : XK), Room k (A.deeper (envOfC x (defScope st) s.heap.objs.size f cdv)) → sp vs H Q E →
      ∃ t, PSs (cxOf (L2N.CX P w) P w K mg base N x (defScope st) f cdv A outer s H E) (defBody st) t ∧ t { nx := fun _ H' => Q .non H', rt := Q } (start N vs) H) : CalN P w K mg base (k + 1) x sp := by
  obtain ⟨f, fd, F1, hm, hb, _⟩ := F.ex
  have kp := F1.kp
  obtain ⟨oc, od, kV, doc, pm, an, cdv, ct, osl, rfl, lk, hcd⟩ := F1.ex
  exact ⟨f, _, ps, fn_of lk hcd S len fun A outer s H vs Q E hr hsp => hbody f cdv A outer s H vs Q E hr hsp, hm, kp, hb⟩
end
section
variable {X : Cx} {W : WX} {C fI : Addr} {nm : Str}
theorem pe_crN {x : Str} {p pos : Pos} {e : Expr} {es : List Expr} {t : TA} {sp : Sp} {j k : Nat} (c : CalN X.prog X.w X.K X.mg X.base k x sp) (hr : Room j X.A) (hk : k ≤ j) (hg : Gl X x) (tk : L2N.Takes X W) (ha : PA X (e :: es) t)
    (hdb : (x == ("__debug__" : Str)) = false := by decide) (he : starEach (e :: es) X.env = (false, eval e X.env) :: starEach es X.env := by rfl) (hpl : (backTo pos (starEach es X.env)).any (·.1) = false := by rfl) :
    PE X (.Call (.Name x p) (e :: es) [] pos) (tCallS sp (WE W) t) := by
  obtain ⟨f, fd, ps, F, hm, kp, b⟩ := c.ex
  exact pe_callS F (hr.mono hk) hg hm kp b (fun σ => L2N.passAt tk σ) ha hdb he hpl
theorem ps_raiseErrN {a : Expr} {ta : TA} {p pos pos2 : Pos} {k : Nat} (hc : X.calm = true) (T : PySem.BkErr.ErrTxt X.prog X.K X.mg nm C fI) (hr : Room k X.A) (tk : L2N.Takes X W) (ha : PA X [a] ta) (hg : Gl X nm := by rfl) (hnd : (nm == ("__debug__" : Str)) = false := by decide)
    (he : starEach (a :: []) X.env = (false, eval a X.env) :: starEach [] X.env := by rfl) (hpl : (backTo pos (starEach [] X.env)).any (·.1) = false := by rfl) :
    PS X (.Raise (some (.Call (.Name nm p) [a] [] pos)) none pos2) (tRaiseErr C W ta) := L2N.ps_raise hc tk (pmk_errN T hr ha hg hnd he hpl)
end
end BkG
end
section
namespace BkG
open PySem PySem.Spec PyProof.Rows L2
/-! ### a text so often -/
def oftenS (z : Str) (k : Nat) : Str := ⟨(List.replicate k z.cps).foldl (· ++ ·) #[]⟩
def rMulS : R2 := fun x y H Q => ∃ (z : Str) (k : Nat), x = .str z ∧ y = .int (k : Int) ∧ 2 ≤ k ∧ k ≤ 1000 ∧ 1 ≤ z.length ∧ z.length ≤ 1000 ∧ (oftenS z k).length ≤ 1000000 ∧ Q (.str (oftenS z k)) H
theorem op_mulStr {X : Cx} : OpR X (binaryOp .Mult) rMulS := by
  intro pins s σ H x y v u Q I rx ry ⟨z, k, ex, ey, k2, k9, z1, z9, zl, q⟩
  subst ex ey
  obtain ⟨t, rfl⟩ := rx
  obtain ⟨t', rfl⟩ := ry
  have n1 : ¬ ((k : Int) < 1) := by omega
  have nq : ((k : Int) == 1 || z.length == 0) = false := by
    rw [Bool.or_eq_false_iff]
    exact ⟨beq_eq_false_iff_ne.mpr (by omega), beq_eq_false_iff_ne.mpr (by omega)⟩
  have pr : z.length * k ≤ 1000 * 1000 := Nat.mul_le_mul z9 k9
  refine P.mul_str ?_ (fun _ _ => ?_) (fun _ _ => ?_) ?_
  · rw [decide_eq_false (by omega), decide_eq_false (by omega)]; rfl
  · have : (1000 : Int) ≤ (2 ^ 63 - 1) / (k : Int) := by
      rw [Int.le_ediv_iff_mul_le (by omega)]
      omega
    omega
  · rw [Int.toNat_natCast]
    unfold PySem.Builtin.Str.tooLong
    exact decide_eq_false (by rw [sizeLine_eq]; omega)
  · rw [if_neg n1, if_neg (by rw [nq]; exact Bool.false_ne_true), Int.toNat_natCast]
    exact ⟨by show (oftenS z k).length ≤ sizeLine; rw [sizeLine_eq]; omega, .str (oftenS z k), H, I.tok _, ⟨_, rfl⟩, q⟩
/-! ### texts of one sign each, joined -/
theorem joinL_one : ∀ cs : List Nat, TL.joinL [] (cs.map fun c => [c]) = cs
  | [] => rfl
  | [c] => rfl
  | c :: b :: r => by
    have := joinL_one (b :: r)
    show [c] ++ ([] ++ TL.joinL [] ((b :: r).map fun c => [c])) = _
    rw [this]; rfl
theorem join_one (cs : List Nat) : Txt.join "" (cs.map fun c => (⟨#[c]⟩ : Str)) = SX.S cs := by
  have h := SX.join_S [] (cs.map fun c => [c])
  rw [joinL_one, List.map_map] at h
  exact h
theorem sum_one : ∀ cs : List Nat, ((cs.map fun c => (⟨#[c]⟩ : Str)).map (·.length)).sum = cs.length
  | [] => rfl
  | c :: r => by
    have := sum_one r
    rw [List.map_cons, List.map_cons, List.sum_cons, this, List.length_cons]
    show 1 + r.length = _
    omega
theorem upper_len {cs : List Nat} (h : ∀ c ∈ cs, c < 128) : (Txt.upper (SX.S cs)).length = cs.length := by
  rw [PyProof.Rows.upper_ascii (x := SX.S cs) (by intro c hc; exact h c (by simpa using hc))]
  simp [Str.length]
/-- a short thing for names -/
def okV (H : Hp) (v : V) : Prop := ∃ d, Dv [] H v d ∧ shortS d ∧ nice 63 d = true
/-- plain signs alone, not too many -/
def asc (n : Nat) (s : Str) : Prop := s.length ≤ n ∧ ∀ c ∈ s.cps.toList, c < 128
def ascB (n : Nat) (s : Str) : Bool := decide (s.length ≤ n) && s.cps.toList.all fun c => decide (c < 128)
theorem asc.by {n : Nat} {s : Str} (h : ascB n s = true) : asc n s := by
  unfold ascB at h
  rw [Bool.and_eq_true] at h
  exact ⟨of_decide_eq_true h.1, fun c hc => of_decide_eq_true (List.all_eq_true.mp h.2 c hc)⟩
theorem asc.of {cs : List Nat} {n : Nat} (h : ∀ c ∈ cs, c < 128) (l : cs.length ≤ n) : asc n (SX.S cs) := ⟨by rw [SX.S_len]; exact l, fun c hc => h c (by simpa using hc)⟩
theorem asc.cat {a b : Nat} {s t : Str} (h : asc a s) (g : asc b t) : asc (a + b) (s ++ t) := by
  refine ⟨?_, fun c hc => ?_⟩
  · have : (s ++ t).length = s.length + t.length := by show (s.cps ++ t.cps).size = _; simp [Str.length]
    have := h.1; have := g.1; omega
  · have e : (s ++ t).cps.toList = s.cps.toList ++ t.cps.toList := by show (s.cps ++ t.cps).toList = _; simp
    rw [e] at hc
    exact (List.mem_append.mp hc).elim (h.2 c) (g.2 c)
theorem up1_lt {c : Nat} (h : c < 128) : PyProof.Rows.up1 c < 128 := by unfold PyProof.Rows.up1; split <;> omega
theorem asc.up {n : Nat} {s : Str} (h : asc n s) : asc n (Txt.upper s) := by
  rw [PyProof.Rows.upper_ascii h.2]
  refine ⟨by have := h.1; simpa [Str.length] using this, fun c hc => ?_⟩
  have hc : c ∈ s.cps.toList.map PyProof.Rows.up1 := by simpa using hc
  obtain ⟨b, hb, rfl⟩ := List.mem_map.mp hc
  exact up1_lt (h.2 b hb)
theorem asc.okS {n : Nat} {s : Str} (h : asc n s) : PyData.strOk s = true := by
  unfold PyData.strOk
  rw [Array.all_eq_true']
  intro c hc
  exact decide_eq_true (Nat.lt_of_lt_of_le (h.2 c (Array.mem_toList_iff.mpr hc)) (by decide))
theorem okV.s {H : Hp} {n : Nat} {z : Str} (h : asc n z) (l : n ≤ 1000) : okV H (.str z) := ⟨.str z, .str z, fun s e => by cases e; exact Nat.le_trans h.1 l, nice.mk rfl h.okS⟩
theorem okV.ex {H H' : Hp} {v : V} (h : okV H v) (e : Ex H H') : okV H' v := let ⟨d, a, b, c⟩ := h; ⟨d, a.ex e, b, c⟩
theorem asc.cut {n : Nat} {s : Str} {lo hi : Option Int} (h : asc n s) : asc n (cutS s lo hi) := by
  refine ⟨Nat.le_trans (cutS_length s lo hi) h.1, fun c hc => ?_⟩
  have hc : c ∈ (((s.cps.toList.drop (HT.sIx s.length 0 lo)).take (HT.sIx s.length s.length hi - HT.sIx s.length 0 lo)).toArray).toList := hc
  exact h.2 c (List.mem_of_mem_drop (List.mem_of_mem_take (by simpa using hc)))
end BkG
end
section
namespace BkL
open PySem PySem.Spec L2 BkG
local macro_rules | `(tactic| walk_at "w1") => `(tactic| first
  | with_reducible refine w_seq ?_ | with_reducible refine w_set ?_ | with_reducible refine w_ret ?_ | with_reducible refine w_drop ?_ | with_reducible refine w_ifS ?_
  | with_reducible refine w_next ?_ | with_reducible refine w_c ?_ | ((with_reducible refine' w_var ?hv ?_); (case hv => rfl)) | with_reducible refine w_op ?_ | with_reducible refine w_cons ?_ | with_reducible refine w_nil ?_
  | with_reducible refine w_cb ?_ | with_reducible refine w_call ?_ | with_reducible refine w_tup ?_ | with_reducible refine w_lst ?_ | with_reducible refine w_bm ?_ | with_reducible refine w_bm0 ?_ | with_reducible refine w_un ?_
  | with_reducible refine w_test ?_ | with_reducible refine w_B ?_ | with_reducible refine k_B ?_ | with_reducible refine w_and ?_ | with_reducible refine w_or ?_ | with_reducible refine w_not ?_ | with_reducible refine w_if ?_
  | with_reducible refine w_andV ?_ | with_reducible refine w_orV ?_ | with_reducible refine w_notV ?_ | with_reducible refine k_andV ?_ | with_reducible refine k_orV ?_ | with_reducible refine k_notV ?_
  | with_reducible refine w_chain ?_ | with_reducible refine ex_bl ?_ | with_reducible refine w_isN ?_ | with_reducible refine w_notN ?_ | with_reducible refine w_yes ?_
  | with_reducible refine r_I0 ?_ | with_reducible refine r_U ?_ | with_reducible refine r_eqI ?_ | with_reducible refine r_neI ?_ | with_reducible refine r_eqS ?_ | with_reducible refine r_neS ?_ | with_reducible refine r_eqB ?_ | with_reducible refine r_neB ?_
  | with_reducible refine r_abs ?_ | with_reducible refine r_int ?_ | with_reducible refine r_intB ?_
  | with_reducible refine w_sl ?_ | with_reducible refine w_nop ?_ | with_reducible refine w_part ?_ | with_reducible refine k_part ?_ | with_reducible refine w_revL ?_
  | with_reducible refine w_asg ?_ | with_reducible refine w_gname ?_ | with_reducible refine w_gsub ?_ | with_reducible refine w_gnil ?_ | with_reducible refine w_gcons ?_ | with_reducible refine w_retN ?_ | with_reducible refine w_brk ?_ | with_reducible refine w_cont ?_
  | with_reducible refine w_par ?_ | with_reducible refine w_par3 ?_ | with_reducible refine par_ok ?_ | with_reducible refine par_ok3 ?_ | ((with_reducible refine' w_aug ?hv ?_); (case hv => rfl)) | with_reducible refine i_I ?_
  | with_reducible refine w_forL ?_ | with_reducible refine w_forT ?_ | with_reducible refine w_forR1 ?_ | with_reducible refine w_forE ?_ | with_reducible refine w_lcL ?_ | with_reducible refine w_lcT ?_ | with_reducible refine w_lcR ?_
  | ((with_reducible refine a_tup ?hz ?_); (case hz => exact Nat.le_of_ble_eq_true rfl); intro _ _ _ _ _) | ((with_reducible refine a_lst ?hz ?_); (case hz => exact Nat.le_of_ble_eq_true rfl); intro _ _ _ _ _)
  | ((with_reducible refine k_turn1 ?hw ?_); (case hw => rfl)) | ((with_reducible refine k_turn ?hw ?_); (case hw => rfl)) | with_reducible refine r_isV ?_ | with_reducible refine r_isNotV ?_ | with_reducible refine r_isN ?_ | with_reducible refine r_notN ?_ | with_reducible refine w_lcZ ?_
  | ((with_reducible refine r_I ?hc ?_); (case hc => first | decide | assumption))
  | with_reducible refine w_forET ?_
  | ((with_reducible refine w_dnewK ?_); intro _ _ _ _ _) | with_reducible refine w_dput ?_ | with_reducible refine w_lstRg ?_ | with_reducible refine w_lstZip ?_ | with_reducible refine w_callK ?_
  | (with_reducible refine if_pos' ?_) | (with_reducible refine if_neg' ?_))
local macro_rules | `(tactic| walk_at "w") => `(tactic| repeat (walk_at "w1"))

def topS (i : Nat) : Stmt := PySem.Challenge.pw_backagain_k00_errors_and_names.main.body.getD i (.Pass ⟨0, 0, 0, 0⟩)
abbrev s_any : Stmt := topS 20
theorem sc_any : FnScope ["deal", "bound", "rest"] ["deal", "bound"] (defScope s_any) := ⟨rfl, rfl, rfl, by decide +kernel, rfl, by decide +kernel, by decide +kernel⟩
theorem C_any {P : Program} {w : World} {K : PySem.W.Frag} {mg : Str → Option Value} {base : Heap} (F : Fn K mg "_law_any" s_any ["deal", "bound"]) (Z : Bz mg) : Cal P w K mg base 1 "_law_any" spAny := by
  have S := sc_any
  refine F.cal S (fun vs H Q E h => ?_) (fun f cdv A outer s H vs Q E hr h => ?_)
  · obtain ⟨D, L, n, rfl, _⟩ := h; rfl
  · obtain ⟨D, L, n, rfl, hd, hn, hb, q⟩ := h
    refine ⟨_, (pss_cons (ps_while PassesOwn.never (PW.pt (pw_and (pt_cmpR (op_neD hr.units) (pe_ix ix_list (pv 0) pe_int (fun _ _ => rfl)) (pe_lst pa_nil) (nomark _)) (pw_and1 (pt_cmpR op_eq (pe_ix ix_list (pe_ix ix_list (pv 0) pe_int (fun _ _ => rfl)) (pe_un un_neg pe_int) (fun _ _ => rfl)) pe_int (nomark _))))) (pss_one (ps_expr (pe_bm0 PySem.F.plainAttrs_list PySem.F.slot_list_pop PySem.F.type_list_pop mt_pop (pe_ix ix_list (pv 0) pe_int (fun _ _ => rfl))))))
      (pss_cons (ps_if (pt_cmpR (op_neD hr.units) (pe_ix ix_list (pv 0) pe_int (fun _ _ => rfl)) (pe_lst pa_nil) (nomark _)) (pss_cons (ps_set (i := 2) S.nd rfl (Or.inl rfl) (pe_callTy (cr_int) (by rfl) Z.int (by decide +kernel) (pa_cons (pe_bm0 PySem.F.plainAttrs_list PySem.F.slot_list_pop PySem.F.type_list_pop mt_pop (pe_ix ix_list (pv 0) pe_int (fun _ _ => rfl))) pa_nil)))
      (pss_cons (ps_expr (pe_bm PySem.F.plainAttrs_list PySem.F.slot_list_append PySem.F.type_list_append mt_append (pe_ix ix_list (pv 0) pe_int (fun _ _ => rfl)) (pa_cons (pe_op op_fdivW (pv 2) (pv 1)) pa_nil)))
      (pss_one (ps_ret (pe_op op_mod (pv 2) (pv 1)))))) pss_nil)
      (pss_cons (ps_asg (pe_op op_mod (pe_callTy (cr_int) (by rfl) Z.int (by decide +kernel) (pa_cons (pe_op op_add (pe_op op_mulW (pe_ix ix_list (pv 0) pe_int (fun _ _ => rfl)) pe_int) pe_int) pa_nil)) pe_int) (pg_sub (pv 0) pe_int set_list))
      (pss_one (ps_ret (pe_op op_mod (pe_callTy (cr_int) (by rfl) Z.int (by decide +kernel) (pa_cons (pe_op op_fdivW (pe_ix ix_list (pv 0) pe_int (fun _ _ => rfl)) pe_int) pa_nil)) (pv 1))))))), ?_⟩
    try dsimp only [cxOf, Cx.nox, Cx.wish]
    obtain ⟨st0, b0, d0⟩ := hd
    walk_at "w"
    refine w_cut (fun σ' H' => σ' = [some (.ref D), some (.int n), none] ∧ ∃ st b, DS H' D L st b ∧ Kp [D, L] H H') ?out (fun _ out => ?loop)
    case loop =>
      refine w_while (fun m σ' H' => σ' = [some (.ref D), some (.int n), none] ∧ ∃ st b, st.length = m ∧ DS H' D L st b ∧ Kp [D, L] H H') st0.length ⟨rfl, st0, b0, rfl, d0, Kp.refl _ _⟩ (fun m σ' H' hP => ?_)
      obtain ⟨rfl, st, b, rfl, d, k⟩ := hP
      walk_at "w"
      refine r_ixL (.of d.hD) (by rfl) ?_
      walk_at "w"
      rename_i p H2 hp e2 hp2
      refine r_neD (dp_ints (.of (e2 _ _ d.hL))) (.lst (.of hp2) .nil) (shaped_ints _) (by rfl) ?_
      rw [eqv_nil]
      have d2 := d.keep e2
      walk_at "w"
      by_cases hst : st = []
      · subst hst
        rw [show (!(List.map PyData.int []).isEmpty) = false from rfl]
        walk_at "w"
        exact k_wh (fun h => absurd h (by simp)) fun _ => out _ _ ⟨rfl, [], b, d2, k.ex e2⟩
      · have e0 : (!(List.map PyData.int st).isEmpty) = true := by cases st with
          | nil => exact absurd rfl hst
          | cons _ _ => rfl
        rw [e0]
        walk_at "w"
        refine r_ixL (.of d2.hD) (by rfl) ?_
        walk_at "w"
        refine r_ixL (.of d2.hL) (atI_last' hst) ?_
        walk_at "w"
        refine k_wh (fun h => ?_) fun _ => out _ _ ⟨rfl, st, b, d2, k.ex e2⟩
        walk_at "w"
        refine r_ixL (.of d2.hD) (by rfl) ?_
        refine ⟨ty_list d2.hL, r_pop d2.hL (last_int hst) fun H3 k3 h3 => ?_⟩
        rw [mapdrop] at h3
        have hlen : 0 < st.length := List.length_pos_iff.mpr hst
        refine ⟨st.dropLast.length, by rw [List.length_dropLast]; omega, rfl, st.dropLast, b, rfl, d2.setL k3 h3 (by rw [List.length_dropLast]; have := d2.len; omega) fun z hz => d2.all z (List.dropLast_subset _ hz), (k.ex e2).trans (k3.wider (by simp))⟩
    case out =>
      intro σ' H' hP
      obtain ⟨rfl, st, b, d, k⟩ := hP
      walk_at "w"
      refine r_ixL (.of d.hD) (by rfl) ?_
      walk_at "w"
      rename_i p H2 hp e2 hp2
      refine r_neD (dp_ints (.of (e2 _ _ d.hL))) (.lst (.of hp2) .nil) (shaped_ints _) (by rfl) ?_
      rw [eqv_nil]
      have d2 := d.keep e2
      have k2 := k.ex e2
      walk_at "w"
      by_cases hst : st = []
      · subst hst
        rw [show (!(List.map PyData.int []).isEmpty) = false from rfl]
        walk_at "w"
        refine r_ixL (.of d2.hD) (by rfl) ?_
        walk_at "w"
        have b0 := d2.b0
        have b1 := d2.b1
        refine r_I (wide_mul (a := 40) (b := 40) (by omega) (by decide) (by decide) (by decide) (by decide)) ?_
        walk_at "w"
        refine r_setL d2.hD (j := 1) (by rfl) fun H3 k3 h3 => ?_
        have d3 : DS H3 D L [] ((b * 40693 + 71) % 2147483647) := ⟨h3, k3 _ _ d2.hL (by simpa using d2.ne.symm), d2.len, d2.all, Int.emod_nonneg _ (by decide), Int.emod_lt_of_pos _ (by decide)⟩
        walk_at "w"
        refine r_ixL (.of d3.hD) (by rfl) ?_
        walk_at "w"
        refine r_I (wide_div (b := 8) (by decide) (by decide) (by decide) (by decide)) ?_
        walk_at "w"
        exact q _ _ (Int.emod_nonneg _ (by omega)) (Int.emod_lt_of_pos _ hn) ⟨_, _, d3⟩ (k2.trans (k3.wider (by simp)))
      · have e0 : (!(List.map PyData.int st).isEmpty) = true := by cases st with
          | nil => exact absurd rfl hst
          | cons _ _ => rfl
        rw [e0]
        walk_at "w"
        refine r_ixL (.of d2.hD) (by rfl) ?_
        refine ⟨ty_list d2.hL, r_pop d2.hL (last_int hst) fun H3 k3 h3 => ?_⟩
        rw [mapdrop] at h3
        have hlen : 0 < st.length := List.length_pos_iff.mpr hst
        have d3 : DS H3 D L st.dropLast b := d2.setL k3 h3 (by rw [List.length_dropLast]; have := d2.len; omega) fun z hz => d2.all z (List.dropLast_subset _ hz)
        have z0 := d2.all _ (List.getLast_mem hst)
        walk_at "w"
        refine r_ixL (.of d3.hD) (by rfl) ?_
        refine ⟨ty_list d3.hL, ?_⟩
        walk_at "w"
        refine r_I (wide_div (b := 4000) hn hb (by decide) (by decide)) ?_
        walk_at "w"
        refine r_append d3.hL (by rw [List.length_map, List.length_dropLast]; have := d2.len; omega) fun H4 k4 h4 => ?_
        have e4 : st.dropLast.map V.int ++ [V.int (st.getLast hst / n)] = (st.dropLast ++ [st.getLast hst / n]).map V.int := by simp
        rw [e4] at h4
        have d4 : DS H4 D L (st.dropLast ++ [st.getLast hst / n]) b := d3.setL k4 h4 (by rw [List.length_append, List.length_dropLast, List.length_singleton]; have := d2.len; omega) (fun z hz => by
          rcases List.mem_append.mp hz with h | h
          · exact d3.all z h
          · rw [List.mem_singleton.mp h]
            exact Int.ediv_nonneg z0 (by omega))
        walk_at "w"
        exact q _ _ (Int.emod_nonneg _ (by omega)) (Int.emod_lt_of_pos _ hn) ⟨_, _, d4⟩ ((k2.trans (k3.wider (by simp))).trans (k4.wider (by simp)))
end BkL
end
section
namespace BkL
open PySem PySem.Spec L2 BkG
local macro_rules | `(tactic| walk_at "w1") => `(tactic| first
  | with_reducible refine w_seq ?_ | with_reducible refine w_set ?_ | with_reducible refine w_ret ?_ | with_reducible refine w_drop ?_ | with_reducible refine w_ifS ?_
  | with_reducible refine w_next ?_ | with_reducible refine w_c ?_ | ((with_reducible refine' w_var ?hv ?_); (case hv => rfl)) | with_reducible refine w_op ?_ | with_reducible refine w_cons ?_ | with_reducible refine w_nil ?_
  | with_reducible refine w_cb ?_ | with_reducible refine w_call ?_ | with_reducible refine w_tup ?_ | with_reducible refine w_lst ?_ | with_reducible refine w_bm ?_ | with_reducible refine w_bm0 ?_ | with_reducible refine w_un ?_
  | with_reducible refine w_test ?_ | with_reducible refine w_B ?_ | with_reducible refine k_B ?_ | with_reducible refine w_and ?_ | with_reducible refine w_or ?_ | with_reducible refine w_not ?_ | with_reducible refine w_if ?_
  | with_reducible refine w_andV ?_ | with_reducible refine w_orV ?_ | with_reducible refine w_notV ?_ | with_reducible refine k_andV ?_ | with_reducible refine k_orV ?_ | with_reducible refine k_notV ?_
  | with_reducible refine w_chain ?_ | with_reducible refine ex_bl ?_ | with_reducible refine w_isN ?_ | with_reducible refine w_notN ?_ | with_reducible refine w_yes ?_
  | with_reducible refine r_I0 ?_ | with_reducible refine r_U ?_ | with_reducible refine r_eqI ?_ | with_reducible refine r_neI ?_ | with_reducible refine r_eqS ?_ | with_reducible refine r_neS ?_ | with_reducible refine r_eqB ?_ | with_reducible refine r_neB ?_
  | with_reducible refine r_abs ?_ | with_reducible refine r_int ?_ | with_reducible refine r_intB ?_
  | with_reducible refine w_sl ?_ | with_reducible refine w_nop ?_ | with_reducible refine w_part ?_ | with_reducible refine k_part ?_ | with_reducible refine w_revL ?_
  | with_reducible refine w_asg ?_ | with_reducible refine w_gname ?_ | with_reducible refine w_gsub ?_ | with_reducible refine w_gnil ?_ | with_reducible refine w_gcons ?_ | with_reducible refine w_retN ?_ | with_reducible refine w_brk ?_ | with_reducible refine w_cont ?_
  | with_reducible refine w_par ?_ | with_reducible refine w_par3 ?_ | with_reducible refine par_ok ?_ | with_reducible refine par_ok3 ?_ | ((with_reducible refine' w_aug ?hv ?_); (case hv => rfl)) | with_reducible refine i_I ?_
  | with_reducible refine w_forL ?_ | with_reducible refine w_forT ?_ | with_reducible refine w_forR1 ?_ | with_reducible refine w_forE ?_ | with_reducible refine w_lcL ?_ | with_reducible refine w_lcT ?_ | with_reducible refine w_lcR ?_
  | ((with_reducible refine a_tup ?hz ?_); (case hz => exact Nat.le_of_ble_eq_true rfl); intro _ _ _ _ _) | ((with_reducible refine a_lst ?hz ?_); (case hz => exact Nat.le_of_ble_eq_true rfl); intro _ _ _ _ _)
  | ((with_reducible refine k_turn1 ?hw ?_); (case hw => rfl)) | ((with_reducible refine k_turn ?hw ?_); (case hw => rfl)) | with_reducible refine r_isV ?_ | with_reducible refine r_isNotV ?_ | with_reducible refine r_isN ?_ | with_reducible refine r_notN ?_ | with_reducible refine w_lcZ ?_
  | ((with_reducible refine r_I ?hc ?_); (case hc => first | decide | assumption))
  | with_reducible refine w_forET ?_
  | ((with_reducible refine w_dnewK ?_); intro _ _ _ _ _) | with_reducible refine w_dput ?_ | with_reducible refine w_lstRg ?_ | with_reducible refine w_lstZip ?_ | with_reducible refine w_callK ?_
  | (with_reducible refine if_pos' ?_) | (with_reducible refine if_neg' ?_))
local macro_rules | `(tactic| walk_at "w") => `(tactic| repeat (walk_at "w1"))

section
variable {P : Program} {w : World} {K : PySem.W.Frag} {mg : Str → Option Value} {base : Heap}
abbrev s_of : Stmt := topS 21
theorem sc_of : FnScope ["deal", "some"] ["deal", "some"] (defScope s_of) := ⟨rfl, rfl, rfl, by decide +kernel, rfl, by decide +kernel, by decide +kernel⟩
theorem C_of (F : Fn K mg "_law_of" s_of ["deal", "some"]) (Z : Bz mg) (A : Cal P w K mg base 1 "_law_any" spAny) : Cal P w K mg base 2 "_law_of" spOf := by
  have S := sc_of
  refine F.cal S (fun vs H Q E h => ?_) (fun f cdv A' outer s H vs Q E hr h => ?_)
  · obtain ⟨D, L, p, xs, rfl, _⟩ := h; rfl
  · obtain ⟨D, L, p, xs, rfl, hd, hp, n1, n2, hl, hm, q⟩ := h
    refine ⟨_, (pss_one (ps_ret (pe_ix ix_list (pv 1) (pe_c0 A hr (by omega) (by rfl) (pa_cons (pv 0) (pa_cons (pe_callB (cr_len) (by rfl) Z.len (by decide +kernel) (pa_cons (pv 1) pa_nil)) pa_nil))) (fun _ _ => rfl)))), ?_⟩
    try dsimp only [cxOf, Cx.nox, Cx.wish]
    walk_at "w"
    refine r_len (.inl (.of hp)) rfl ?_
    walk_at "w"
    refine ⟨D, L, _, rfl, hd, by omega, small4000 (by omega), fun z H' z0 z1 d' k => ?_⟩
    obtain ⟨x, e, e'⟩ := atI_of (xs := xs) z0 z1
    refine r_ixL (.of (k.at hp (by simp [n1, n2]))) e ?_
    exact q _ _ _ e' d' k
abbrev s_draw : Stmt := topS 19
theorem sc_draw : FnScope ["script", "salt", "cells", "cell", "blend"] ["script", "salt"] (defScope s_draw) := ⟨rfl, rfl, rfl, by decide +kernel, rfl, by decide +kernel, by decide +kernel⟩
theorem C_draw (F : Fn K mg "_law_draw" s_draw ["script", "salt"]) (Z : Bz mg) : Cal P w K mg base 1 "_law_draw" (spDraw K) := by
  have S := sc_draw
  refine F.cal S (fun vs H Q E h => ?_) (fun f cdv A' outer s H vs Q E hr h => ?_)
  · obtain ⟨a, ns, salt, rfl, _⟩ := h; rfl
  · obtain ⟨a, ns, salt, rfl, ha, hl, hs0, hs1, q⟩ := h
    refine ⟨_, (pss_cons (ps_setLc (i := 2) (own := [("cell", 3)]) (g := (gName 3)) (tt := tYes) rfl S.nd rfl rfl (sw_true rfl rfl rfl (by decide +kernel)) (pi_list (pe_slice sl_list (pv 0) po_none (po_some pe_int))) (blkOk_by (N := ["script", "salt", "cells", "cell", "blend"]) (sc := defScope s_draw) (by decide +kernel)) (fun _ _ _ _ _ => (pg_name (i := 3) S.nd rfl (Or.inl rfl))) (fun _ _ _ _ _ => pts_nil) (fun _ _ _ _ _ => (pe_callB (cr_abs) (by rfl) Z.abs (by decide +kernel) (pa_cons (pe_callTy (cr_int) (by rfl) Z.int (by decide +kernel) (pa_cons (pv 3) pa_nil)) pa_nil))))
      (pss_cons (ps_set (i := 4) S.nd rfl (Or.inl rfl) (pe_op op_add pe_int (pe_op op_mulW pe_int (pv 1))))
      (pss_cons (ps_for PassesOwn.never rfl (pi_list (pv 2)) (pg_name (i := 3) S.nd rfl (Or.inl rfl)) (pss_one (ps_set (i := 4) S.nd rfl (Or.inl rfl) (pe_op op_mod (pe_callTy (cr_int) (by rfl) Z.int (by decide +kernel) (pa_cons (pe_op op_add (pe_op op_add (pe_op op_mulW (pv 4) pe_int) (pe_op op_mod (pv 3) pe_int)) pe_int) pa_nil)) pe_int))))
      (pss_one (ps_ret (pe_lst (pa_cons (pe_revL (pe_lc (own := [("cell", 3)]) (g := (gName 3)) rfl S.nd (pi_list (pv 2)) (blkOk_by (N := ["script", "salt", "cells", "cell", "blend"]) (sc := defScope s_draw) (by decide +kernel)) (fun _ _ _ _ _ => (pg_name (i := 3) S.nd rfl (Or.inl rfl))) (fun _ _ _ _ _ => (pts_one (pt_cmpR op_ge (pv 3) (pe_op op_pow pe_int pe_int) (nomark _)))) (fun _ _ _ _ _ => (pv 3)))) (pa_cons (pv 4) pa_nil)))))))), ?_⟩
    try dsimp only [cxOf, Cx.nox, Cx.wish]
    walk_at "w"
    refine r_slL ha fun l H1 hl1 e1 hl2 => ?_
    rw [show ((48 : Int)) = ((48 : Nat) : Int) from rfl, cut_to, ← List.map_take] at hl2
    obtain ⟨cs, hcs⟩ : ∃ cs : List Int, cs = (ns.take 48).map fun z => (z.natAbs : Int) := ⟨_, rfl⟩
    have hcl : cs.length ≤ 48 := by rw [hcs, List.length_map, List.length_take]; omega
    have hc0 : ∀ z ∈ cs, 0 ≤ z := fun z hz => by
      rw [hcs] at hz
      obtain ⟨y, _, e⟩ := List.mem_map.mp hz
      omega
    have hlen : ((ns.take 48).map V.int).length = cs.length := by rw [hcs, List.length_map, List.length_map]
    refine k_lcL (.of hl2) (lcL (xs := (ns.take 48).map V.int) (fun i acc D H' => Ex H1 H' ∧ acc = (cs.take i).map V.int) (fun D H2 _ e _ => ⟨e, rfl⟩) (fun i acc D H' _ p => p.1.sqL (.of hl2)) (fun i x acc D H' hx hlt hD hacc p => ?_) (fun acc D H' _ hD hacc p => ?_))
    · obtain ⟨e, rfl⟩ := p
      obtain ⟨z, hz, rfl⟩ := map_some hx
      have hi : i < 48 := by
        have h := (List.getElem?_eq_some_iff.mp hz).1
        rw [List.length_take] at h
        omega
      walk_at "w"
      refine k_lc hacc hlt (by omega) fun H5 h5 k5 => ⟨e.mut hD k5, ?_⟩
      have hz' : cs[i]? = some (z.natAbs : Int) := by rw [hcs, List.getElem?_map, hz]; rfl
      rw [take_more hz', List.map_append]; rfl
    · obtain ⟨e, rfl⟩ := p
      rw [hlen, List.take_length] at hacc
      have eH : Ex H H' := e1.trans e
      walk_at "w"
      refine r_I (wide_mul (a := 20) (b := 20) (by decide) (by omega) (by decide) (by decide) (by decide)) ?_
      walk_at "w"
      refine k_forL (.of hacc) (fun i σ' H2 => H2 = H' ∧ ∃ b z3, σ' = [some (.ref a), some (.int salt), some (.ref D), z3, some (.int b)] ∧ 0 ≤ b ∧ b < 2147483647) ⟨rfl, _, none, rfl, by omega, by omega⟩ (fun i σ' H2 _ p => by rw [p.1]; exact .of hacc) (fun i x σ' H2 hx p => ?_) (fun σ' H2 p => ?_)
      · obtain ⟨rfl, b, z3, rfl, b0, b1⟩ := p
        obtain ⟨z, hz, rfl⟩ := map_some hx
        walk_at "w"
        refine r_I (wide_mul (a := 40) (b := 40) (by omega) (by decide) (by decide) (by decide) (by decide)) ?_
        walk_at "w"
        exact ⟨rfl, _, _, rfl, Int.emod_nonneg _ (by decide), Int.emod_lt_of_pos _ (by decide)⟩
      · obtain ⟨rfl, b, z3, rfl, b0, b1⟩ := p
        walk_at "w"
        refine k_lcL (.of hacc) (lcL (xs := cs.map V.int) (fun i acc D2 H3 => Ex H2 H3 ∧ ∃ st : List Int, acc = st.map V.int ∧ ∀ z ∈ st, 0 ≤ z) (fun D2 H3 _ e _ => ⟨e, [], rfl, by simp⟩) (fun i acc D2 H3 _ p => p.1.sqL (.of hacc)) (fun i x acc D2 H3 hx hlt hD2 hacc2 p => ?_) (fun acc D2 H3 hz hD2 hacc2 p => ?_))
        · obtain ⟨e3, st, rfl, hst⟩ := p
          obtain ⟨z, hz, rfl⟩ := map_some hx
          have hi : i < 48 := by have h := (List.getElem?_eq_some_iff.mp hz).1; omega
          walk_at "w"
          refine r_I ⟨by decide, by decide, by decide⟩ ?_
          walk_at "w"
          refine if_by (fun _ => ?_) (fun _ => ?_)
          · walk_at "w"
            refine k_lc hacc2 hlt (by omega) fun H5 h5 k5 => ⟨e3.mut hD2 k5, st ++ [z], by simp, fun y hy => ?_⟩
            rcases List.mem_append.mp hy with h | h
            · exact hst y h
            · rw [List.mem_singleton.mp h]; exact hc0 z (List.mem_of_getElem? hz)
          · exact k_lcN hacc2 hlt ⟨e3, st, rfl, hst⟩
        · obtain ⟨e3, st, rfl, hst⟩ := p
          refine k_revL (.of hacc2) fun l2 H4 hl4 e4 h4 => ?_
          walk_at "w"
          rename_i D5 H5 hD5 e5 h5
          refine q D5 l2 H5 (((eH.trans e3).trans e4).trans e5) ⟨st.reverse, b, ⟨h5, ?_, ?_, fun z hz => hst z (List.mem_reverse.mp hz), b0, b1⟩⟩
          · rw [List.map_reverse]; exact e5 _ _ h4
          · rw [List.length_map] at hz
            rw [List.length_reverse]
            rw [List.length_map] at hz
            omega
end
end BkL
end
section
namespace BkL
open PySem PySem.Spec L2 BkG
local macro_rules | `(tactic| walk_at "w1") => `(tactic| first
  | with_reducible refine w_seq ?_ | with_reducible refine w_set ?_ | with_reducible refine w_ret ?_ | with_reducible refine w_drop ?_ | with_reducible refine w_ifS ?_
  | with_reducible refine w_next ?_ | with_reducible refine w_c ?_ | ((with_reducible refine' w_var ?hv ?_); (case hv => rfl)) | with_reducible refine w_op ?_ | with_reducible refine w_cons ?_ | with_reducible refine w_nil ?_
  | with_reducible refine w_cb ?_ | with_reducible refine w_call ?_ | with_reducible refine w_tup ?_ | with_reducible refine w_lst ?_ | with_reducible refine w_bm ?_ | with_reducible refine w_bm0 ?_ | with_reducible refine w_un ?_
  | with_reducible refine w_test ?_ | with_reducible refine w_B ?_ | with_reducible refine k_B ?_ | with_reducible refine w_and ?_ | with_reducible refine w_or ?_ | with_reducible refine w_not ?_ | with_reducible refine w_if ?_
  | with_reducible refine w_andV ?_ | with_reducible refine w_orV ?_ | with_reducible refine w_notV ?_ | with_reducible refine k_andV ?_ | with_reducible refine k_orV ?_ | with_reducible refine k_notV ?_
  | with_reducible refine w_chain ?_ | with_reducible refine ex_bl ?_ | with_reducible refine w_isN ?_ | with_reducible refine w_notN ?_ | with_reducible refine w_yes ?_
  | with_reducible refine r_I0 ?_ | with_reducible refine r_U ?_ | with_reducible refine r_eqI ?_ | with_reducible refine r_neI ?_ | with_reducible refine r_eqS ?_ | with_reducible refine r_neS ?_ | with_reducible refine r_eqB ?_ | with_reducible refine r_neB ?_
  | with_reducible refine r_abs ?_ | with_reducible refine r_int ?_ | with_reducible refine r_intB ?_
  | with_reducible refine w_sl ?_ | with_reducible refine w_nop ?_ | with_reducible refine w_part ?_ | with_reducible refine k_part ?_ | with_reducible refine w_revL ?_
  | with_reducible refine w_asg ?_ | with_reducible refine w_gname ?_ | with_reducible refine w_gsub ?_ | with_reducible refine w_gnil ?_ | with_reducible refine w_gcons ?_ | with_reducible refine w_retN ?_ | with_reducible refine w_brk ?_ | with_reducible refine w_cont ?_
  | with_reducible refine w_par ?_ | with_reducible refine w_par3 ?_ | with_reducible refine par_ok ?_ | with_reducible refine par_ok3 ?_ | ((with_reducible refine' w_aug ?hv ?_); (case hv => rfl)) | with_reducible refine i_I ?_
  | with_reducible refine w_forL ?_ | with_reducible refine w_forT ?_ | with_reducible refine w_forR1 ?_ | with_reducible refine w_forE ?_ | with_reducible refine w_lcL ?_ | with_reducible refine w_lcT ?_ | with_reducible refine w_lcR ?_
  | ((with_reducible refine a_tup ?hz ?_); (case hz => exact Nat.le_of_ble_eq_true rfl); intro _ _ _ _ _) | ((with_reducible refine a_lst ?hz ?_); (case hz => exact Nat.le_of_ble_eq_true rfl); intro _ _ _ _ _)
  | ((with_reducible refine k_turn1 ?hw ?_); (case hw => rfl)) | ((with_reducible refine k_turn ?hw ?_); (case hw => rfl)) | with_reducible refine r_isV ?_ | with_reducible refine r_isNotV ?_ | with_reducible refine r_isN ?_ | with_reducible refine r_notN ?_ | with_reducible refine w_lcZ ?_
  | ((with_reducible refine r_I ?hc ?_); (case hc => first | decide | assumption))
  | with_reducible refine w_forET ?_
  | ((with_reducible refine w_dnewK ?_); intro _ _ _ _ _) | with_reducible refine w_dput ?_ | with_reducible refine w_lstRg ?_ | with_reducible refine w_lstZip ?_ | with_reducible refine w_callK ?_
  | (with_reducible refine if_pos' ?_) | (with_reducible refine if_neg' ?_))
local macro_rules | `(tactic| walk_at "w") => `(tactic| repeat (walk_at "w1"))

section
variable {P : Program} {w : World} {K : PySem.W.Frag} {mg : Str → Option Value} {base : Heap}
abbrev s_same : Stmt := topS 22
theorem sc_same : FnScope ["value", "due", "one", "other"] ["value", "due"] (defScope s_same) := ⟨rfl, rfl, rfl, by decide +kernel, rfl, by decide +kernel, by decide +kernel⟩
theorem C_same (F : Fn K mg "_law_same" s_same ["value", "due"]) (Z : Bz mg) (n : Nat) : Cal P w K mg base (n + 1) "_law_same" (spSame n) := by
  induction n with
  | zero => exact F.cal sc_same (fun vs H Q E h => h.elim) (fun f cdv A' outer s H vs Q E hr h => h.elim)
  | succ n ih =>
  have S := sc_same
  refine F.cal S (fun vs H Q E h => ?_) (fun f cdv A' outer s H vs Q E hr h => ?_)
  · obtain ⟨M, v, u, d, e, rfl, _⟩ := h; rfl
  · obtain ⟨M, v, u, d, e, rfl, hv, hu, ok, q⟩ := h
    refine ⟨_, (pss_cons (ps_if (pt_val (pe_callB call_isiT (by rfl) Z.isinstance (by decide +kernel) (pa_cons (pv 1) (pa_cons (pe_tup (pa_cons (pe_bltn (v := .ty "tuple") (by rfl) Z.tuple (by decide +kernel) rfl) (pa_cons (pe_bltn (v := .ty "list") (by rfl) Z.list (by decide +kernel) rfl) pa_nil))) pa_nil)))) (pss_cons (ps_if (PW.pt (pw_or (pt_cmpR op_ne (pe_callB call_isi (by rfl) Z.isinstance (by decide +kernel) (pa_cons (pv 1) (pa_cons (pe_bltn (v := .ty "tuple") (by rfl) Z.tuple (by decide +kernel) rfl) pa_nil))) (pe_callB call_isi (by rfl) Z.isinstance (by decide +kernel) (pa_cons (pv 0) (pa_cons (pe_bltn (v := .ty "tuple") (by rfl) Z.tuple (by decide +kernel) rfl) pa_nil))) (nomark _)) (pw_or (pt_not (pt_val (pe_callB call_isiT (by rfl) Z.isinstance (by decide +kernel) (pa_cons (pv 0) (pa_cons (pe_tup (pa_cons (pe_bltn (v := .ty "tuple") (by rfl) Z.tuple (by decide +kernel) rfl) (pa_cons (pe_bltn (v := .ty "list") (by rfl) Z.list (by decide +kernel) rfl) pa_nil))) pa_nil))))) (pw_or1 (pt_cmpR op_ne (pe_callB (cr_len) (by rfl) Z.len (by decide +kernel) (pa_cons (pv 0) pa_nil)) (pe_callB (cr_len) (by rfl) Z.len (by decide +kernel) (pa_cons (pv 1) pa_nil)) (nomark _)))))) (pss_one (ps_ret pe_bl)) pss_nil)
      (pss_one (ps_ret (pe_cmpR (op_eqD hr.units) (pe_lc (own := [("one", 2), ("other", 3)]) (g := (gTup K 2 (gCons (gName 2) (gCons (gName 3) gNil)))) rfl S.nd (RZ.pi_zipA (by rfl) Z.zip (pa_cons (pv 0) (pa_cons (pv 1) pa_nil))) (blkOk_by (N := ["value", "due", "one", "other"]) (sc := defScope s_same) (by decide +kernel)) (fun _ _ _ _ _ => (pg_tup rfl (pgs_cons (pg_name (i := 2) S.nd rfl (Or.inl rfl)) (pgs_cons (pg_name (i := 3) S.nd rfl (Or.inl rfl)) pgs_nil)))) (fun _ _ _ _ _ => (pts_one (pt_not (pt_val (pe_c0 ih hr (by omega) (by rfl) (pa_cons (pv 2) (pa_cons (pv 3) pa_nil))))))) (fun _ _ _ _ _ => pe_int)) (pe_lst pa_nil) (nomark _))))) pss_nil)
      (pss_cons (ps_if (pt_cmpR op_isN1 (pv 1) pe_non (nomark _)) (pss_one (ps_ret (pe_cmpR op_isN1 (pv 0) pe_non (nomark _)))) pss_nil)
      (pss_cons (ps_if (pt_cmpR op_isV (pv 1) pe_bl (nomark _)) (pss_one (ps_ret (pe_cmpR op_isV (pv 0) pe_bl (nomark _)))) pss_nil)
      (pss_cons (ps_if (pt_cmpR op_isV (pv 1) pe_bl (nomark _)) (pss_one (ps_ret (pe_cmpR op_isV (pv 0) pe_bl (nomark _)))) pss_nil)
      (pss_cons (ps_if (pt_val (pe_callB call_isi (by rfl) Z.isinstance (by decide +kernel) (pa_cons (pv 1) (pa_cons (pe_bltn (v := .ty "int") (by rfl) Z.int (by decide +kernel) rfl) pa_nil)))) (pss_one (ps_ret (pe_and (pe_callB call_isi (by rfl) Z.isinstance (by decide +kernel) (pa_cons (pv 0) (pa_cons (pe_bltn (v := .ty "int") (by rfl) Z.int (by decide +kernel) rfl) pa_nil))) (pe_and (pe_not (pe_callB call_isi (by rfl) Z.isinstance (by decide +kernel) (pa_cons (pv 0) (pa_cons (pe_bltn (v := .ty "bool") (by rfl) Z.bool (by decide +kernel) rfl) pa_nil)))) (pe_one (pe_cmpR op_eq (pv 0) (pv 1) (nomark _))))))) pss_nil)
      (pss_one (ps_ret (pe_and (pe_callB call_isi (by rfl) Z.isinstance (by decide +kernel) (pa_cons (pv 0) (pa_cons (pe_bltn (v := .ty "str") (by rfl) Z.str (by decide +kernel) rfl) pa_nil))) (pe_one (pe_cmpR op_eq (pv 0) (pv 1) (nomark _))))))))))), ?_⟩
    try dsimp only [cxOf, Cx.nox, Cx.wish]
    walk_at "w"
    rename_i p H1 hp e1 hp1
    refine r_isiTL hp1 (hu.ex e1) ?_
    walk_at "w"
    refine if_by (fun hs => ?_) (fun hs => ?_)
    · walk_at "w"
      refine r_isiTup (hu.ex e1) ?_
      walk_at "w"
      refine r_isiTup (hv.ex e1) ?_
      walk_at "w"
      refine if_by (fun hne => ?_) (fun heq => ?_)
      · walk_at "w"
        have h3 : isTup e ≠ isTup d := by simpa using hne
        have q' := q H1 e1
        rw [same_no hs (.inl h3)] at q'
        exact q'
      · have h3 : isTup e = isTup d := by simpa using heq
        walk_at "w"
        rename_i p2 H2 hp2 e2 hp2'
        refine r_isiTL hp2' ((hv.ex e1).ex e2) ?_
        walk_at "w"
        have e12 := e1.trans e2
        refine if_by (fun hns => ?_) (fun hsq => ?_)
        · walk_at "w"
          have h4 : (isTup d || isLst d) = false := by simpa using hns
          have q' := q H2 e12
          rw [same_no hs (.inr h4)] at q'
          exact q'
        · have h4 : (isTup d || isLst d) = true := by cases hh : (isTup d || isLst d) with
            | true => rfl
            | false => rw [hh] at hsq; cases hsq
          walk_at "w"
          rcases same_seq h4 hs h3 with ⟨ds, es, rfl, rfl⟩ | ⟨ds, es, rfl, rfl⟩
          · obtain ⟨a, xs, rfl, ha, la, ta⟩ := hv.tup_inv
            obtain ⟨b, ys, rfl, hb, lb, tb⟩ := hu.tup_inv
            refine r_len (.inr (.of (e12 _ _ ha))) rfl ?_
            walk_at "w"
            refine r_len (.inr (.of (e12 _ _ hb))) rfl ?_
            walk_at "w"
            cases n with
            | zero => simp [okD] at ok
            | succ n =>
            simp only [okD, Bool.and_eq_true, decide_eq_true_eq, List.all_eq_true] at ok
            refine if_by (fun hl => ?_) (fun hl => ?_)
            · walk_at "w"
              have hl' : ds.length ≠ es.length := by intro z; apply absurd hl; simp; omega
              have q' := q H2 e12
              rw [show smD (.tuple ds) (.tuple es) = smAll ds es by simp [smD], smAll_len hl'] at q'
              exact q'
            · have hl' : ds.length = es.length := by
                have hl2 : ((xs.length : Int) = (ys.length : Int)) := by simpa using hl
                omega
              walk_at "w"
              refine ⟨a, b, xs, ys, rfl, .inr ⟨.of (e12 _ _ ha), .of (e12 _ _ hb), ?_⟩⟩
              refine lcZT (by omega) (fun i acc D H' => Ex H2 H' ∧ ∃ zs : List Int, acc = zs.map V.int ∧ (zs = [] ↔ ∀ (j : Nat) (x y : PyData), j < i → ds[j]? = some x → es[j]? = some y → smD x y = true))
                (fun D H3 _ e3 _ => ⟨e3, [], rfl, by simp⟩) (fun i acc D H' _ p => ⟨.of (p.1 _ _ (e12 _ _ ha)), .of (p.1 _ _ (e12 _ _ hb))⟩) (fun i x y acc D H' T H3 hx hy hlt hD hacc p e3 hT => ?_) (fun acc D H' _ hD hacc p => ?_)
              · obtain ⟨e4, zs, rfl, hz⟩ := p
                obtain ⟨dx, hdx⟩ := get_of_len la hx
                obtain ⟨dy, hdy⟩ := get_of_len lb hy
                have hi : i < 90000 := by have h := (List.getElem?_eq_some_iff.mp hx).1; omega
                have e23 := (e12.trans e4).trans e3
                refine w_gtup (.of hT) rfl ?_
                walk_at "w"
                refine ⟨M, x, y, dx, dy, rfl, (ta i x dx hx hdx).ex e23, (tb i y dy hy hdy).ex e23, ok.2 dx (List.mem_of_getElem? hdx), fun H4 e4' => ?_⟩
                walk_at "w"
                refine if_by (fun hu' => ?_) (fun hu' => ?_)
                · have hsame : smD dx dy = false := by simpa using hu'
                  walk_at "w"
                  refine k_lc (e4' _ _ hacc) hlt hi fun H5 h5 k5 => ⟨Ex.mut ((e4.trans e3).trans e4') hD k5, zs ++ [0], by simp, ?_⟩
                  constructor
                  · intro z; simp at z
                  · intro g
                    have := g i dx dy (Nat.lt_succ_self i) hdx hdy
                    rw [hsame] at this; cases this
                · have hsame : smD dx dy = true := by simpa using hu'
                  refine k_lcN (e4' _ _ hacc) hlt ⟨(e4.trans e3).trans e4', zs, rfl, ?_⟩
                  rw [hz]
                  constructor
                  · intro g j x' y' hj h1 h2
                    by_cases hji : j = i
                    · subst hji
                      rw [hdx] at h1; rw [hdy] at h2; cases h1; cases h2; exact hsame
                    · exact g j x' y' (by omega) h1 h2
                  · intro g j x' y' hj; exact g j x' y' (by omega)
              · obtain ⟨e4, zs, rfl, hz⟩ := p
                walk_at "w"
                rename_i p5 H5 hp5 e5 hp5'
                refine r_eqD (dp_ints (.of (e5 _ _ hacc))) (.lst (.of hp5') .nil) (shaped_ints _) (by rfl) ?_
                rw [eqv_nil]
                have q' := q H5 ((e12.trans e4).trans e5)
                rw [show smD (.tuple ds) (.tuple es) = smAll ds es by simp [smD]] at q'
                have fin : (zs.map PyData.int).isEmpty = smAll ds es := by
                  rw [Bool.eq_iff_iff, smAll_iff hl', List.isEmpty_iff, List.map_eq_nil_iff, hz]
                  constructor
                  · intro g i x y h1 h2; exact g i x y (by have := (List.getElem?_eq_some_iff.mp h1).1; omega) h1 h2
                  · intro g j x y _ h1 h2; exact g j x y h1 h2
                rw [fin]; exact q'
          · obtain ⟨a, xs, rfl, ha, na, la, ta⟩ := hv.lst_inv
            obtain ⟨b, ys, rfl, hb, nb, lb, tb⟩ := hu.lst_inv
            refine r_len (.inl (.of (e12 _ _ ha))) rfl ?_
            walk_at "w"
            refine r_len (.inl (.of (e12 _ _ hb))) rfl ?_
            walk_at "w"
            cases n with
            | zero => simp [okD] at ok
            | succ n =>
            simp only [okD, Bool.and_eq_true, decide_eq_true_eq, List.all_eq_true] at ok
            refine if_by (fun hl => ?_) (fun hl => ?_)
            · walk_at "w"
              have hl' : ds.length ≠ es.length := by intro z; apply absurd hl; simp; omega
              have q' := q H2 e12
              rw [show smD (.list ds) (.list es) = smAll ds es by simp [smD], smAll_len hl'] at q'
              exact q'
            · have hl' : ds.length = es.length := by
                have hl2 : ((xs.length : Int) = (ys.length : Int)) := by simpa using hl
                omega
              walk_at "w"
              refine ⟨a, b, xs, ys, rfl, .inl ⟨.of (e12 _ _ ha), .of (e12 _ _ hb), ?_⟩⟩
              refine lcZL (by omega) (fun i acc D H' => Ex H2 H' ∧ ∃ zs : List Int, acc = zs.map V.int ∧ (zs = [] ↔ ∀ (j : Nat) (x y : PyData), j < i → ds[j]? = some x → es[j]? = some y → smD x y = true))
                (fun D H3 _ e3 _ => ⟨e3, [], rfl, by simp⟩) (fun i acc D H' _ p => ⟨.of (p.1 _ _ (e12 _ _ ha)), .of (p.1 _ _ (e12 _ _ hb))⟩) (fun i x y acc D H' T H3 hx hy hlt hD hacc p e3 hT => ?_) (fun acc D H' _ hD hacc p => ?_)
              · obtain ⟨e4, zs, rfl, hz⟩ := p
                obtain ⟨dx, hdx⟩ := get_of_len la hx
                obtain ⟨dy, hdy⟩ := get_of_len lb hy
                have hi : i < 90000 := by have h := (List.getElem?_eq_some_iff.mp hx).1; omega
                have e23 := (e12.trans e4).trans e3
                refine w_gtup (.of hT) rfl ?_
                walk_at "w"
                refine ⟨M, x, y, dx, dy, rfl, (ta i x dx hx hdx).ex e23, (tb i y dy hy hdy).ex e23, ok.2 dx (List.mem_of_getElem? hdx), fun H4 e4' => ?_⟩
                walk_at "w"
                refine if_by (fun hu' => ?_) (fun hu' => ?_)
                · have hsame : smD dx dy = false := by simpa using hu'
                  walk_at "w"
                  refine k_lc (e4' _ _ hacc) hlt hi fun H5 h5 k5 => ⟨Ex.mut ((e4.trans e3).trans e4') hD k5, zs ++ [0], by simp, ?_⟩
                  constructor
                  · intro z; simp at z
                  · intro g
                    have := g i dx dy (Nat.lt_succ_self i) hdx hdy
                    rw [hsame] at this; cases this
                · have hsame : smD dx dy = true := by simpa using hu'
                  refine k_lcN (e4' _ _ hacc) hlt ⟨(e4.trans e3).trans e4', zs, rfl, ?_⟩
                  rw [hz]
                  constructor
                  · intro g j x' y' hj h1 h2
                    by_cases hji : j = i
                    · subst hji
                      rw [hdx] at h1; rw [hdy] at h2; cases h1; cases h2; exact hsame
                    · exact g j x' y' (by omega) h1 h2
                  · intro g j x' y' hj; exact g j x' y' (by omega)
              · obtain ⟨e4, zs, rfl, hz⟩ := p
                walk_at "w"
                rename_i p5 H5 hp5 e5 hp5'
                refine r_eqD (dp_ints (.of (e5 _ _ hacc))) (.lst (.of hp5') .nil) (shaped_ints _) (by rfl) ?_
                rw [eqv_nil]
                have q' := q H5 ((e12.trans e4).trans e5)
                rw [show smD (.list ds) (.list es) = smAll ds es by simp [smD]] at q'
                have fin : (zs.map PyData.int).isEmpty = smAll ds es := by
                  rw [Bool.eq_iff_iff, smAll_iff hl', List.isEmpty_iff, List.map_eq_nil_iff, hz]
                  constructor
                  · intro g i x y h1 h2; exact g i x y (by have := (List.getElem?_eq_some_iff.mp h1).1; omega) h1 h2
                  · intro g j x y _ h1 h2; exact g j x y h1 h2
                rw [fin]; exact q'
    · walk_at "w"
      have q' := q H1 e1
      have hv1 := hv.ex e1
      cases hu with
      | lst h n l t => simp [isTup, isLst] at hs
      | tup h l t => simp [isTup, isLst] at hs
      | non =>
        refine if_dt (by rfl) ?_
        walk_at "w"
        rw [show decide (v = .non) = smD d .none by cases hv1 <;> simp [smD]]
        exact q'
      | bl b =>
        refine if_df (by rfl) ?_
        walk_at "w"
        cases b with
        | true =>
          refine if_dt (by rfl) ?_
          walk_at "w"
          rw [show decide (v = .bl true) = smD d (.bool true) by cases hv1 <;> simp [smD]]
          exact q'
        | false =>
          refine if_df (by rfl) ?_
          walk_at "w"
          refine if_dt (by rfl) ?_
          walk_at "w"
          rw [show decide (v = .bl false) = smD d (.bool false) by cases hv1 <;> simp [smD]]
          exact q'
      | int i =>
        refine if_df (by rfl) ?_
        walk_at "w"
        refine if_df (by rfl) ?_
        walk_at "w"
        refine if_df (by rfl) ?_
        walk_at "w"
        refine r_isiInt (.int (M := M) i) ?_
        walk_at "w"
        refine if_dt (by rfl) ?_
        walk_at "w"
        refine r_isiInt hv1 ?_
        walk_at "w"
        cases hv1 with
        | int j =>
          refine if_dt (by rfl) ?_
          walk_at "w"
          refine r_isiBool (.int (M := M) j) ?_
          walk_at "w"
          refine if_dt (by rfl) ?_
          walk_at "w"
          rw [show decide (j = i) = smD (.int j) (.int i) by simp [smD]; rfl]
          exact q'
        | bl b =>
          refine if_dt (by rfl) ?_
          walk_at "w"
          refine r_isiBool (.bl (M := M) b) ?_
          walk_at "w"
          refine if_df (by rfl) ?_
          simpa [smD] using q'
        | _ => refine if_df (by rfl) ?_; simpa [smD] using q'
      | str x =>
        refine if_df (by rfl) ?_
        walk_at "w"
        refine if_df (by rfl) ?_
        walk_at "w"
        refine if_df (by rfl) ?_
        walk_at "w"
        refine r_isiInt (.str (M := M) x) ?_
        walk_at "w"
        refine if_df (by rfl) ?_
        walk_at "w"
        refine r_isiStr hv1 ?_
        walk_at "w"
        cases hv1 with
        | str y =>
          refine if_dt (by rfl) ?_
          walk_at "w"
          rw [show decide (y = x) = smD (.str y) (.str x) by simp [smD]; rfl]
          exact q'
        | _ => refine if_df (by rfl) ?_; simpa [smD] using q'
end
end BkL
end
section
namespace BkL
open PySem PySem.Spec L2 BkG
local macro_rules | `(tactic| walk_at "w1") => `(tactic| first
  | with_reducible refine w_seq ?_ | with_reducible refine w_set ?_ | with_reducible refine w_ret ?_ | with_reducible refine w_drop ?_ | with_reducible refine w_ifS ?_
  | with_reducible refine w_next ?_ | with_reducible refine w_c ?_ | ((with_reducible refine' w_var ?hv ?_); (case hv => rfl)) | with_reducible refine w_op ?_ | with_reducible refine w_cons ?_ | with_reducible refine w_nil ?_
  | with_reducible refine w_cb ?_ | with_reducible refine w_call ?_ | with_reducible refine w_tup ?_ | with_reducible refine w_lst ?_ | with_reducible refine w_bm ?_ | with_reducible refine w_bm0 ?_ | with_reducible refine w_un ?_
  | with_reducible refine w_test ?_ | with_reducible refine w_B ?_ | with_reducible refine k_B ?_ | with_reducible refine w_and ?_ | with_reducible refine w_or ?_ | with_reducible refine w_not ?_ | with_reducible refine w_if ?_
  | with_reducible refine w_andV ?_ | with_reducible refine w_orV ?_ | with_reducible refine w_notV ?_ | with_reducible refine k_andV ?_ | with_reducible refine k_orV ?_ | with_reducible refine k_notV ?_
  | with_reducible refine w_chain ?_ | with_reducible refine ex_bl ?_ | with_reducible refine w_isN ?_ | with_reducible refine w_notN ?_ | with_reducible refine w_yes ?_
  | with_reducible refine r_I0 ?_ | with_reducible refine r_U ?_ | with_reducible refine r_eqI ?_ | with_reducible refine r_neI ?_ | with_reducible refine r_eqS ?_ | with_reducible refine r_neS ?_ | with_reducible refine r_eqB ?_ | with_reducible refine r_neB ?_
  | with_reducible refine r_abs ?_ | with_reducible refine r_int ?_ | with_reducible refine r_intB ?_
  | with_reducible refine w_sl ?_ | with_reducible refine w_nop ?_ | with_reducible refine w_part ?_ | with_reducible refine k_part ?_ | with_reducible refine w_revL ?_
  | with_reducible refine w_asg ?_ | with_reducible refine w_gname ?_ | with_reducible refine w_gsub ?_ | with_reducible refine w_gnil ?_ | with_reducible refine w_gcons ?_ | with_reducible refine w_retN ?_ | with_reducible refine w_brk ?_ | with_reducible refine w_cont ?_
  | with_reducible refine w_par ?_ | with_reducible refine w_par3 ?_ | with_reducible refine par_ok ?_ | with_reducible refine par_ok3 ?_ | ((with_reducible refine' w_aug ?hv ?_); (case hv => rfl)) | with_reducible refine i_I ?_
  | with_reducible refine w_forL ?_ | with_reducible refine w_forT ?_ | with_reducible refine w_forR1 ?_ | with_reducible refine w_forE ?_ | with_reducible refine w_lcL ?_ | with_reducible refine w_lcT ?_ | with_reducible refine w_lcR ?_
  | ((with_reducible refine a_tup ?hz ?_); (case hz => exact Nat.le_of_ble_eq_true rfl); intro _ _ _ _ _) | ((with_reducible refine a_lst ?hz ?_); (case hz => exact Nat.le_of_ble_eq_true rfl); intro _ _ _ _ _)
  | ((with_reducible refine k_turn1 ?hw ?_); (case hw => rfl)) | ((with_reducible refine k_turn ?hw ?_); (case hw => rfl)) | with_reducible refine r_isV ?_ | with_reducible refine r_isNotV ?_ | with_reducible refine r_isN ?_ | with_reducible refine r_notN ?_ | with_reducible refine w_lcZ ?_
  | ((with_reducible refine r_I ?hc ?_); (case hc => first | decide | assumption))
  | with_reducible refine w_forET ?_
  | ((with_reducible refine w_dnewK ?_); intro _ _ _ _ _) | with_reducible refine w_dput ?_ | with_reducible refine w_lstRg ?_ | with_reducible refine w_lstZip ?_ | with_reducible refine w_callK ?_
  | (with_reducible refine if_pos' ?_) | (with_reducible refine if_neg' ?_))
local macro_rules | `(tactic| walk_at "w") => `(tactic| repeat (walk_at "w1"))

/-- plain data without lists -/
def plainD : Nat → PyData → Bool
  | _, .none | _, .bool _ | _, .int _ | _, .str _ => true
  | n + 1, .tuple xs => decide (xs.length ≤ 90000) && xs.all (plainD n)
  | _, _ => false
/-- a thing beside itself -/
def spSameH : Nat → Sp
  | 0 => fun _ _ _ _ => False
  | n + 1 => fun vs H Q _ => ∃ (M : List Addr) (v u : V) (d : PyData), vs = [v, u] ∧ Dv M H v d ∧ Dv M H u d ∧ plainD n d = true ∧ ∀ H', Ex H H' → Q (.bl true) H'
theorem w_callS {σ : L2.St} {H : Hp} {Q : VK} {sp : Sp} {E : L2.St → XK} {t : TA} (h : t σ H fun vs H1 => sp vs H1 Q (E σ)) : tCallS sp E t σ H Q := h
def aLcZH (K : PySem.W.Frag) (g : TG) (tt : TT) (te : TE) (vs : List Nat) (σ : L2.St) (Q : VK) : List V → Hp → Prop := fun us H1 => ∃ a b xs ys, us = [.ref a, .ref b] ∧ SqT K H1 a xs ∧ SqT K H1 b ys ∧ LcW (RZ.ItzT K a b) g tt te vs σ Q H1
theorem w_lcZH {K : PySem.W.Frag} {g : TG} {tt : TT} {te : TE} {vs : List Nat} {σ : L2.St} {Q : VK} {H : Hp} {a : TA} (h : a σ H (aLcZH K g tt te vs σ Q)) : tLc (iZipTT K a) g tt te vs σ H Q := h
local macro_rules | `(tactic| walk_at "h") => `(tactic| repeat (first | walk_at "w1" | with_reducible refine w_callS ?_))
section
variable {P : Program} {w : World} {K : PySem.W.Frag} {mg : Str → Option Value} {base : Heap}
abbrev s_sameH : Stmt := topS 22
theorem sc_sameH : FnScope ["value", "due", "one", "other"] ["value", "due"] (defScope s_sameH) := ⟨rfl, rfl, rfl, by decide +kernel, rfl, by decide +kernel, by decide +kernel⟩
theorem C_sameH (F : Fn K mg "_law_same" s_sameH ["value", "due"]) (Z : Bz mg) (n : Nat) : CalH P w K mg base (n + 1) "_law_same" (spSameH n) := by
  induction n with
  | zero => exact F.calH sc_sameH (fun vs H Q E h => h.elim) (fun f cdv A' outer s H vs Q E p hot hr h => h.elim)
  | succ n ihH =>
  have S := sc_sameH
  refine F.calH S (fun vs H Q E h => ?_) (fun f cdv A' outer s H vs Q E p hot hr h => ?_)
  · obtain ⟨M, v, u, d, rfl, _⟩ := h; rfl
  · obtain ⟨M, v, u, d, rfl, hv, hu, ok, q⟩ := h
    refine ⟨_, (pss_cons (ps_if (pt_val (pe_callB call_isiT (by rfl) Z.isinstance (by decide +kernel) (pa_cons (pv 1) (pa_cons (pe_tup (pa_cons (pe_bltn (v := .ty "tuple") (by rfl) Z.tuple (by decide +kernel) rfl) (pa_cons (pe_bltn (v := .ty "list") (by rfl) Z.list (by decide +kernel) rfl) pa_nil))) pa_nil)))) (pss_cons (ps_if (PW.pt (pw_or (pt_cmpR op_ne (pe_callB call_isi (by rfl) Z.isinstance (by decide +kernel) (pa_cons (pv 1) (pa_cons (pe_bltn (v := .ty "tuple") (by rfl) Z.tuple (by decide +kernel) rfl) pa_nil))) (pe_callB call_isi (by rfl) Z.isinstance (by decide +kernel) (pa_cons (pv 0) (pa_cons (pe_bltn (v := .ty "tuple") (by rfl) Z.tuple (by decide +kernel) rfl) pa_nil))) (nomark _)) (pw_or (pt_not (pt_val (pe_callB call_isiT (by rfl) Z.isinstance (by decide +kernel) (pa_cons (pv 0) (pa_cons (pe_tup (pa_cons (pe_bltn (v := .ty "tuple") (by rfl) Z.tuple (by decide +kernel) rfl) (pa_cons (pe_bltn (v := .ty "list") (by rfl) Z.list (by decide +kernel) rfl) pa_nil))) pa_nil))))) (pw_or1 (pt_cmpR op_ne (pe_callB (cr_len) (by rfl) Z.len (by decide +kernel) (pa_cons (pv 0) pa_nil)) (pe_callB (cr_len) (by rfl) Z.len (by decide +kernel) (pa_cons (pv 1) pa_nil)) (nomark _)))))) (pss_one (ps_ret pe_bl)) pss_nil)
      (pss_one (ps_ret (pe_cmpR (op_eqD hr.units) (pe_lcH (own := [("one", 2), ("other", 3)]) (g := (gTup K 2 (gCons (gName 2) (gCons (gName 3) gNil)))) hot List.mem_cons_self S.nd (pi_zipH (by rfl) Z.zip (pa_cons (pv 0) (pa_cons (pv 1) pa_nil))) (blkOk_by (N := ["value", "due", "one", "other"]) (sc := defScope s_sameH) (by decide +kernel)) (fun _ _ _ _ _ => ⟨(pg_tupH ⟨_, hot, List.mem_cons_self⟩ (pgs_cons (pg_name (i := 2) S.nd rfl (Or.inl rfl)) (pgs_cons (pg_name (i := 3) S.nd rfl (Or.inl rfl)) pgs_nil))), (pts_one (pt_not (pt_val (pe_cH ihH hr (by omega) ⟨_, hot, List.mem_cons_self⟩ (by rfl) (pa_cons (pv 2) (pa_cons (pv 3) pa_nil)))))), pe_int⟩)) (pe_lst pa_nil) (nomark _))))) pss_nil)
      (pss_cons (ps_if (pt_cmpR op_isN1 (pv 1) pe_non (nomark _)) (pss_one (ps_ret (pe_cmpR op_isN1 (pv 0) pe_non (nomark _)))) pss_nil)
      (pss_cons (ps_if (pt_cmpR op_isV (pv 1) pe_bl (nomark _)) (pss_one (ps_ret (pe_cmpR op_isV (pv 0) pe_bl (nomark _)))) pss_nil)
      (pss_cons (ps_if (pt_cmpR op_isV (pv 1) pe_bl (nomark _)) (pss_one (ps_ret (pe_cmpR op_isV (pv 0) pe_bl (nomark _)))) pss_nil)
      (pss_cons (ps_if (pt_val (pe_callB call_isi (by rfl) Z.isinstance (by decide +kernel) (pa_cons (pv 1) (pa_cons (pe_bltn (v := .ty "int") (by rfl) Z.int (by decide +kernel) rfl) pa_nil)))) (pss_one (ps_ret (pe_and (pe_callB call_isi (by rfl) Z.isinstance (by decide +kernel) (pa_cons (pv 0) (pa_cons (pe_bltn (v := .ty "int") (by rfl) Z.int (by decide +kernel) rfl) pa_nil))) (pe_and (pe_not (pe_callB call_isi (by rfl) Z.isinstance (by decide +kernel) (pa_cons (pv 0) (pa_cons (pe_bltn (v := .ty "bool") (by rfl) Z.bool (by decide +kernel) rfl) pa_nil)))) (pe_one (pe_cmpR op_eq (pv 0) (pv 1) (nomark _))))))) pss_nil)
      (pss_one (ps_ret (pe_and (pe_callB call_isi (by rfl) Z.isinstance (by decide +kernel) (pa_cons (pv 0) (pa_cons (pe_bltn (v := .ty "str") (by rfl) Z.str (by decide +kernel) rfl) pa_nil))) (pe_one (pe_cmpR op_eq (pv 0) (pv 1) (nomark _))))))))))), ?_⟩
    try dsimp only [cxOf, Cx.nox, Cx.wish, L2H.cxH]
    walk_at "h"
    rename_i p1 H1 hp1 e1 g1
    refine r_isiTL g1 (hu.ex e1) ?_
    walk_at "h"
    refine if_by (fun hs => ?_) (fun hs => ?_)
    · walk_at "h"
      refine r_isiTup (hu.ex e1) ?_
      walk_at "h"
      refine r_isiTup (hv.ex e1) ?_
      walk_at "h"
      refine if_by (fun hne => absurd hne (by simp)) (fun heq => ?_)
      walk_at "h"
      rename_i p2 H2 hp2 e2 g2
      refine r_isiTL g2 ((hv.ex e1).ex e2) ?_
      walk_at "h"
      have e12 := e1.trans e2
      refine if_by (fun hns => absurd hns (by rw [hs]; simp)) (fun hsq => ?_)
      walk_at "h"
      obtain ⟨ds, rfl⟩ : ∃ ds, d = .tuple ds := by
        cases d <;> first | exact ⟨_, rfl⟩ | (simp [isTup, isLst] at hs; done) | (cases n <;> simp [plainD] at ok)
      obtain ⟨a, xs, rfl, ha, la, ta⟩ := hv.tup_inv
      obtain ⟨b, ys, rfl, hb, lb, tb⟩ := hu.tup_inv
      refine r_len (.inr (.of (e12 _ _ ha))) rfl ?_
      walk_at "h"
      refine r_len (.inr (.of (e12 _ _ hb))) rfl ?_
      walk_at "h"
      cases n with
      | zero => simp [plainD] at ok
      | succ n =>
      simp only [plainD, Bool.and_eq_true, decide_eq_true_eq, List.all_eq_true] at ok
      refine if_by (fun hl => absurd hl (by rw [la, lb]; simp)) (fun hl => ?_)
      walk_at "h"
      refine w_lcZH ?_
      walk_at "h"
      refine ⟨a, b, xs, ys, rfl, .of (e12 _ _ ha), .of (e12 _ _ hb), ?_⟩
      refine lcZT (by omega) (fun i acc D H' => Ex H2 H' ∧ acc = []) (fun D H3 _ e3 _ => ⟨e3, rfl⟩) (fun i acc D H' _ p => ⟨.of (p.1 _ _ (e12 _ _ ha)), .of (p.1 _ _ (e12 _ _ hb))⟩) (fun i x y acc D H' T H3 hx hy hlt hD hacc p e3 hT => ?_) (fun acc D H' _ hD hacc p => ?_)
      · obtain ⟨e4, rfl⟩ := p
        obtain ⟨dx, hdx⟩ := get_of_len la hx
        have e23 := (e12.trans e4).trans e3
        refine w_gtup (.of hT) rfl ?_
        walk_at "h"
        refine ⟨M, x, y, dx, rfl, (ta i x dx hx hdx).ex e23, (tb i y dx hy hdx).ex e23, ok.2 dx (List.mem_of_getElem? hdx), fun H4 e4' => ?_⟩
        walk_at "h"
        refine if_df (by rfl) ?_
        exact k_lcN (e4' _ _ hacc) hlt ⟨(e4.trans e3).trans e4', rfl⟩
      · obtain ⟨e4, rfl⟩ := p
        walk_at "h"
        rename_i p5 H5 hp5 e5 g5
        refine r_eqD (dp_ints (ns := []) (.of (e5 _ _ hacc))) (.lst (.of g5) .nil) (shaped_ints _) (by rfl) ?_
        exact q H5 ((e12.trans e4).trans e5)
    · have q' := q H1 e1
      cases d with
      | none =>
        cases hu
        cases hv
        walk_at "h"
        refine if_dt (by rfl) ?_
        walk_at "h"
        exact q'
      | bool b =>
        cases hu
        cases hv
        walk_at "h"
        refine if_df (by rfl) ?_
        walk_at "h"
        cases b with
        | true =>
          refine if_dt (by rfl) ?_
          walk_at "h"
          exact q'
        | false =>
          refine if_df (by rfl) ?_
          walk_at "h"
          refine if_dt (by rfl) ?_
          walk_at "h"
          exact q'
      | int i =>
        cases hu
        cases hv
        walk_at "h"
        refine if_df (by rfl) ?_
        walk_at "h"
        refine if_df (by rfl) ?_
        walk_at "h"
        refine if_df (by rfl) ?_
        walk_at "h"
        refine r_isiInt (.int (M := M) i) ?_
        walk_at "h"
        refine if_dt (by rfl) ?_
        walk_at "h"
        refine r_isiInt (.int (M := M) i) ?_
        walk_at "h"
        refine if_dt (by rfl) ?_
        walk_at "h"
        refine r_isiBool (.int (M := M) i) ?_
        walk_at "h"
        refine if_dt (by rfl) ?_
        walk_at "h"
        rw [decide_eq_true (show i = i from rfl)]
        exact q'
      | str x =>
        cases hu
        cases hv
        walk_at "h"
        refine if_df (by rfl) ?_
        walk_at "h"
        refine if_df (by rfl) ?_
        walk_at "h"
        refine if_df (by rfl) ?_
        walk_at "h"
        refine r_isiInt (.str (M := M) x) ?_
        walk_at "h"
        refine if_df (by rfl) ?_
        walk_at "h"
        refine r_isiStr (.str (M := M) x) ?_
        walk_at "h"
        refine if_dt (by rfl) ?_
        walk_at "h"
        rw [decide_eq_true (show x = x from rfl)]
        exact q'
      | tuple xs => simp [isTup] at hs
      | _ => cases n <;> simp [plainD] at ok
end
end BkL
end
section
namespace BkL
open PySem PySem.Spec L2 BkG
local macro_rules | `(tactic| walk_at "w1") => `(tactic| first
  | with_reducible refine w_seq ?_ | with_reducible refine w_set ?_ | with_reducible refine w_ret ?_ | with_reducible refine w_drop ?_ | with_reducible refine w_ifS ?_
  | with_reducible refine w_next ?_ | with_reducible refine w_c ?_ | ((with_reducible refine' w_var ?hv ?_); (case hv => rfl)) | with_reducible refine w_op ?_ | with_reducible refine w_cons ?_ | with_reducible refine w_nil ?_
  | with_reducible refine w_cb ?_ | with_reducible refine w_call ?_ | with_reducible refine w_tup ?_ | with_reducible refine w_lst ?_ | with_reducible refine w_bm ?_ | with_reducible refine w_bm0 ?_ | with_reducible refine w_un ?_
  | with_reducible refine w_test ?_ | with_reducible refine w_B ?_ | with_reducible refine k_B ?_ | with_reducible refine w_and ?_ | with_reducible refine w_or ?_ | with_reducible refine w_not ?_ | with_reducible refine w_if ?_
  | with_reducible refine w_andV ?_ | with_reducible refine w_orV ?_ | with_reducible refine w_notV ?_ | with_reducible refine k_andV ?_ | with_reducible refine k_orV ?_ | with_reducible refine k_notV ?_
  | with_reducible refine w_chain ?_ | with_reducible refine ex_bl ?_ | with_reducible refine w_isN ?_ | with_reducible refine w_notN ?_ | with_reducible refine w_yes ?_
  | with_reducible refine r_I0 ?_ | with_reducible refine r_U ?_ | with_reducible refine r_eqI ?_ | with_reducible refine r_neI ?_ | with_reducible refine r_eqS ?_ | with_reducible refine r_neS ?_ | with_reducible refine r_eqB ?_ | with_reducible refine r_neB ?_
  | with_reducible refine r_abs ?_ | with_reducible refine r_int ?_ | with_reducible refine r_intB ?_
  | with_reducible refine w_sl ?_ | with_reducible refine w_nop ?_ | with_reducible refine w_part ?_ | with_reducible refine k_part ?_ | with_reducible refine w_revL ?_
  | with_reducible refine w_asg ?_ | with_reducible refine w_gname ?_ | with_reducible refine w_gsub ?_ | with_reducible refine w_gnil ?_ | with_reducible refine w_gcons ?_ | with_reducible refine w_retN ?_ | with_reducible refine w_brk ?_ | with_reducible refine w_cont ?_
  | with_reducible refine w_par ?_ | with_reducible refine w_par3 ?_ | with_reducible refine par_ok ?_ | with_reducible refine par_ok3 ?_ | ((with_reducible refine' w_aug ?hv ?_); (case hv => rfl)) | with_reducible refine i_I ?_
  | with_reducible refine w_forL ?_ | with_reducible refine w_forT ?_ | with_reducible refine w_forR1 ?_ | with_reducible refine w_forE ?_ | with_reducible refine w_lcL ?_ | with_reducible refine w_lcT ?_ | with_reducible refine w_lcR ?_
  | ((with_reducible refine a_tup ?hz ?_); (case hz => exact Nat.le_of_ble_eq_true rfl); intro _ _ _ _ _) | ((with_reducible refine a_lst ?hz ?_); (case hz => exact Nat.le_of_ble_eq_true rfl); intro _ _ _ _ _)
  | ((with_reducible refine k_turn1 ?hw ?_); (case hw => rfl)) | ((with_reducible refine k_turn ?hw ?_); (case hw => rfl)) | with_reducible refine r_isV ?_ | with_reducible refine r_isNotV ?_ | with_reducible refine r_isN ?_ | with_reducible refine r_notN ?_ | with_reducible refine w_lcZ ?_
  | ((with_reducible refine r_I ?hc ?_); (case hc => first | decide | assumption))
  | with_reducible refine w_forET ?_
  | ((with_reducible refine w_dnewK ?_); intro _ _ _ _ _) | with_reducible refine w_dput ?_ | with_reducible refine w_lstRg ?_ | with_reducible refine w_lstZip ?_ | with_reducible refine w_callK ?_
  | (with_reducible refine if_pos' ?_) | (with_reducible refine if_neg' ?_))
local macro_rules | `(tactic| walk_at "w") => `(tactic| repeat (walk_at "w1"))

local macro_rules | `(tactic| walk_at "s") => `(tactic| repeat (first | walk_at "w1" | with_reducible refine w_lcS ?_ | with_reducible refine w_m1 ?_ | with_reducible refine w_m0 ?_ | with_reducible refine k_m1 ?_ | with_reducible refine k_m0 ?_ | with_reducible refine k_lcS ?_))
section
variable {P : Program} {w : World} {K : PySem.W.Frag} {mg : Str → Option Value} {base : Heap}
abbrev s_isname : Stmt := topS 5
theorem sc_isname : FnScope ["value", "sign"] ["value"] (defScope s_isname) := ⟨rfl, rfl, rfl, by decide +kernel, rfl, by decide +kernel, by decide +kernel⟩
theorem C_isname (F : Fn K mg "is_name" s_isname ["value"]) (Z : Bz mg) (gT_WORDS : ∃ pa, (∃ u, mg "WORDS" = some u ∧ RelV (.ref pa) u) ∧ ∀ H, SqT K H pa wordsV) (g_MOST_SIGNS : ∃ u, mg "MOST_SIGNS" = some u ∧ RelV (.int 12) u) (g_LETTERS : ∃ u, mg "LETTERS" = some u ∧ RelV (.str "abcdefghijklmnopqrstuvwxyz") u) (g_DIGITS : ∃ u, mg "DIGITS" = some u ∧ RelV (.str "0123456789") u) :
    CalK P w K mg base 1 "is_name" ["value"] spNameX := by
  have S := sc_isname
  obtain ⟨pa, g_WORDS, gp⟩ := gT_WORDS
  refine F.calK S (fun vs H Q E h => ?_) (fun f cdv A' outer s H vs Q E hr h => ?_)
  · obtain ⟨M, v, d, rfl, _⟩ := h; rfl
  · obtain ⟨M, v, d, rfl, hv, hsh, q⟩ := h
    refine ⟨_, (pss_cons (ps_if (PW.pt (pw_or (pt_not (pt_val (pe_callB call_isi (by rfl) Z.isinstance (by decide +kernel) (pa_cons (pv 0) (pa_cons (pe_bltn (v := .ty "str") (by rfl) Z.str (by decide +kernel) rfl) pa_nil))))) (pw_or (pt_not (pt_chain op_le op_le pe_int (pe_callB (cr_len) (by rfl) Z.len (by decide +kernel) (pa_cons (pv 0) pa_nil)) (pe_gc (by rfl) g_MOST_SIGNS))) (pw_or1 (pt_cmpR op_in_seq (pv 0) (pe_gc (by rfl) g_WORDS) (by rfl)))))) (pss_one (ps_ret pe_bl)) pss_nil)
      (pss_one (ps_ret (pe_and (pe_cmpR op_inS (pe_ix ix_str (pv 0) pe_int (fun _ _ => rfl)) (pe_gc (by rfl) g_LETTERS) (by rfl)) (pe_one (pe_callB (cr_all rfl) (by rfl) Z.all (by decide +kernel) (pa_cons (pe_lc (own := [("sign", 1)]) (g := (gName 1)) (tt := tYes) rfl S.nd (pi_str (pv 0)) (blkOk_by (N := ["value", "sign"]) (sc := defScope s_isname) (by decide +kernel)) (fun _ _ _ _ _ => (pg_name (i := 1) S.nd rfl (Or.inl rfl))) (fun _ _ _ _ _ => pts_nil) (fun _ _ _ _ _ => (pe_or (pe_cmpR op_inS (pv 1) (pe_gc (by rfl) g_LETTERS) (by rfl)) (pe_one (pe_cmpR op_inS (pv 1) (pe_gc (by rfl) g_DIGITS) (by rfl)))))) pa_nil))))))), ?_⟩
    try dsimp only [cxOf, Cx.nox, Cx.wish]
    walk_at "s"
    refine r_isiStr hv ?_
    walk_at "s"
    refine if_by (fun h => ?_) (fun h => ?_)
    · have e : isStr d = false := by simpa using h
      walk_at "s"
      have q' := q H (fun _ _ h => h)
      cases d <;> first | (simp [isStr] at e; done) | exact q'
    obtain ⟨z, rfl⟩ : ∃ z, d = .str z := by cases d <;> simp [isStr] at h ⊢
    cases hv
    have hz := hsh z rfl
    have q0 := q H (fun _ _ h => h)
    walk_at "s"
    have hlz : z.cps.toList.length = z.length := len_list z
    refine r_lenS (sz_of (by omega)) ?_
    walk_at "s"
    by_cases h1 : (1 : Int) ≤ (z.length : Int)
    case neg =>
      rw [decide_eq_false h1]
      walk_at "s"
      refine if_dt (by rfl) ?_
      walk_at "s"
      have h1' : ¬ 1 ≤ z.length := by omega
      rw [show isNameD (.str z) = false by simp [isNameD, nameS, h1']] at q0
      exact q0
    rw [decide_eq_true h1]
    walk_at "s"
    refine if_by (fun h => ?_) (fun h => ?_)
    · walk_at "s"
      have h1' : ¬ z.length ≤ 12 := by
        have h' : ¬ ((z.length : Int) ≤ 12) := of_decide_eq_false (by simpa using h)
        omega
      rw [show isNameD (.str z) = false by simp [isNameD, nameS, h1']] at q0
      exact q0
    have h2 : z.length ≤ 12 := by
      have h' : ((z.length : Int) ≤ 12) := of_decide_eq_true (by simpa using h)
      omega
    walk_at "s"
    refine r_in (.inr (gp _)) rfl (by decide +kernel) ?_
    walk_at "s"
    refine if_by (fun h => ?_) (fun h => ?_)
    · walk_at "s"
      rw [show isNameD (.str z) = false by simp [isNameD, nameS, h]] at q0
      exact q0
    obtain ⟨c, hc⟩ : ∃ c, z.cps.toList[0]? = some c := ⟨_, List.getElem?_eq_getElem (by omega)⟩
    walk_at "s"
    refine r_ixS (by omega) (c := c) (by rw [show ((0 : Int)) = ((0 : Nat) : Int) from rfl]; exact atI_nat hc) ?_
    walk_at "s"
    refine r_inS ?_
    rw [let_in]
    have hall : isNameD (.str z) = (isLet c && z.cps.toList.all fun c => isLet c || isDig c) := by
      show nameS z = _
      unfold nameS
      rw [decide_eq_true ⟨by omega, h2⟩, h, headD_of hc]
      rfl
    walk_at "s"
    refine if_by (fun h3 => ?_) (fun h3 => ?_)
    · walk_at "s"
      refine (lcS (fun i acc D' H' => Ex H H' ∧ acc = ((z.cps.toList.take i).map fun c => isLet c || isDig c).map V.bl) (fun D' H2 _ e _ => ⟨e, rfl⟩) (fun i c acc D' H' hx hlt hD hacc p => ?_) (fun acc D' H' _ hD hacc p => ?_))
      · obtain ⟨e, rfl⟩ := p
        have hx' : z.cps.toList[i]? = some c := by rw [Array.getElem?_toList]; exact hx
        have hi : i < z.cps.toList.length := (List.getElem?_eq_some_iff.mp hx').1
        walk_at "s"
        refine r_inS ?_
        rw [let_in]
        walk_at "s"
        refine if_by (fun h => ?_) (fun h => ?_)
        · refine k_lc hacc hlt (by omega) fun H5 h5 k5 => ⟨e.mut hD k5, ?_⟩
          rw [take_map_more hx', List.map_append, h]; rfl
        · walk_at "s"
          refine r_inS ?_
          rw [dig_in]
          refine k_lc hacc hlt (by omega) fun H5 h5 k5 => ⟨e.mut hD k5, ?_⟩
          rw [take_map_more hx', List.map_append, h]; rfl
      · obtain ⟨e, rfl⟩ := p
        rw [show z.cps.size = z.cps.toList.length by simp, List.take_length] at hacc
        refine r_all hacc ?_
        have q' := q H' e
        rw [hall, h3, Bool.true_and] at q'
        rw [List.all_map]
        exact q'
    · rw [hall, h3] at q0
      exact q0
end
end BkL
end
section
namespace BkL
open PySem PySem.Spec L2 BkG
local macro_rules | `(tactic| walk_at "w1") => `(tactic| first
  | with_reducible refine w_seq ?_ | with_reducible refine w_set ?_ | with_reducible refine w_ret ?_ | with_reducible refine w_drop ?_ | with_reducible refine w_ifS ?_
  | with_reducible refine w_next ?_ | with_reducible refine w_c ?_ | ((with_reducible refine' w_var ?hv ?_); (case hv => rfl)) | with_reducible refine w_op ?_ | with_reducible refine w_cons ?_ | with_reducible refine w_nil ?_
  | with_reducible refine w_cb ?_ | with_reducible refine w_call ?_ | with_reducible refine w_tup ?_ | with_reducible refine w_lst ?_ | with_reducible refine w_bm ?_ | with_reducible refine w_bm0 ?_ | with_reducible refine w_un ?_
  | with_reducible refine w_test ?_ | with_reducible refine w_B ?_ | with_reducible refine k_B ?_ | with_reducible refine w_and ?_ | with_reducible refine w_or ?_ | with_reducible refine w_not ?_ | with_reducible refine w_if ?_
  | with_reducible refine w_andV ?_ | with_reducible refine w_orV ?_ | with_reducible refine w_notV ?_ | with_reducible refine k_andV ?_ | with_reducible refine k_orV ?_ | with_reducible refine k_notV ?_
  | with_reducible refine w_chain ?_ | with_reducible refine ex_bl ?_ | with_reducible refine w_isN ?_ | with_reducible refine w_notN ?_ | with_reducible refine w_yes ?_
  | with_reducible refine r_I0 ?_ | with_reducible refine r_U ?_ | with_reducible refine r_eqI ?_ | with_reducible refine r_neI ?_ | with_reducible refine r_eqS ?_ | with_reducible refine r_neS ?_ | with_reducible refine r_eqB ?_ | with_reducible refine r_neB ?_
  | with_reducible refine r_abs ?_ | with_reducible refine r_int ?_ | with_reducible refine r_intB ?_
  | with_reducible refine w_sl ?_ | with_reducible refine w_nop ?_ | with_reducible refine w_part ?_ | with_reducible refine k_part ?_ | with_reducible refine w_revL ?_
  | with_reducible refine w_asg ?_ | with_reducible refine w_gname ?_ | with_reducible refine w_gsub ?_ | with_reducible refine w_gnil ?_ | with_reducible refine w_gcons ?_ | with_reducible refine w_retN ?_ | with_reducible refine w_brk ?_ | with_reducible refine w_cont ?_
  | with_reducible refine w_par ?_ | with_reducible refine w_par3 ?_ | with_reducible refine par_ok ?_ | with_reducible refine par_ok3 ?_ | ((with_reducible refine' w_aug ?hv ?_); (case hv => rfl)) | with_reducible refine i_I ?_
  | with_reducible refine w_forL ?_ | with_reducible refine w_forT ?_ | with_reducible refine w_forR1 ?_ | with_reducible refine w_forE ?_ | with_reducible refine w_lcL ?_ | with_reducible refine w_lcT ?_ | with_reducible refine w_lcR ?_
  | ((with_reducible refine a_tup ?hz ?_); (case hz => exact Nat.le_of_ble_eq_true rfl); intro _ _ _ _ _) | ((with_reducible refine a_lst ?hz ?_); (case hz => exact Nat.le_of_ble_eq_true rfl); intro _ _ _ _ _)
  | ((with_reducible refine k_turn1 ?hw ?_); (case hw => rfl)) | ((with_reducible refine k_turn ?hw ?_); (case hw => rfl)) | with_reducible refine r_isV ?_ | with_reducible refine r_isNotV ?_ | with_reducible refine r_isN ?_ | with_reducible refine r_notN ?_ | with_reducible refine w_lcZ ?_
  | ((with_reducible refine r_I ?hc ?_); (case hc => first | decide | assumption))
  | with_reducible refine w_forET ?_
  | ((with_reducible refine w_dnewK ?_); intro _ _ _ _ _) | with_reducible refine w_dput ?_ | with_reducible refine w_lstRg ?_ | with_reducible refine w_lstZip ?_ | with_reducible refine w_callK ?_
  | (with_reducible refine if_pos' ?_) | (with_reducible refine if_neg' ?_))
local macro_rules | `(tactic| walk_at "w") => `(tactic| repeat (walk_at "w1"))

local macro_rules | `(tactic| walk_at "s") => `(tactic| repeat (first | walk_at "w1" | with_reducible refine w_lcS ?_ | with_reducible refine w_m1 ?_ | with_reducible refine w_m0 ?_ | with_reducible refine k_m1 ?_ | with_reducible refine k_m0 ?_ | with_reducible refine k_lcS ?_ | refine r_catS (by decide +kernel) ?_))
section
variable {P : Program} {w : World} {K : PySem.W.Frag} {mg : Str → Option Value} {base : Heap}
abbrev s_lisname : Stmt := topS 23
theorem sc_lisname : FnScope ["value", "words", "sign"] ["value"] (defScope s_lisname) := ⟨rfl, rfl, rfl, by decide +kernel, rfl, by decide +kernel, by decide +kernel⟩
theorem C_lisname (F : Fn K mg "_law_is_name" s_lisname ["value"]) (Z : Bz mg) : Cal P w K mg base 1 "_law_is_name" spName := by
  have S := sc_lisname
  refine F.cal S (fun vs H Q E h => ?_) (fun f cdv A' outer s H vs Q E hr h => ?_)
  · obtain ⟨M, v, d, rfl, _⟩ := h; rfl
  · obtain ⟨M, v, d, rfl, hv, hsh, hni, q⟩ := h
    refine ⟨_, (pss_cons (ps_set (i := 1) S.nd rfl (Or.inl rfl) pe_str)
      (pss_cons (ps_set (i := 1) S.nd rfl (Or.inl rfl) (pe_op op_catS (pv 1) pe_str))
      (pss_cons (ps_set (i := 1) S.nd rfl (Or.inl rfl) (pe_split (pe_op op_catS (pv 1) pe_str) pe_str))
      (pss_cons (ps_if (PW.pt (pw_or (pt_not (pt_val (pe_callB call_isi (by rfl) Z.isinstance (by decide +kernel) (pa_cons (pv 0) (pa_cons (pe_bltn (v := .ty "str") (by rfl) Z.str (by decide +kernel) rfl) pa_nil))))) (pw_or (pt_not (pt_chain op_le op_le pe_int (pe_callB (cr_len) (by rfl) Z.len (by decide +kernel) (pa_cons (pv 0) pa_nil)) pe_int)) (pw_or1 (pt_cmpR op_in_seq (pv 0) (pv 1) (by rfl)))))) (pss_one (ps_ret pe_bl)) pss_nil)
      (pss_one (ps_ret (pe_and (pe_cmpR op_inS (pe_ix ix_str (pv 0) pe_int (fun _ _ => rfl)) pe_str (by rfl)) (pe_one (pe_cmpR (op_eqD hr.units) (pe_lc (own := [("sign", 2)]) (g := (gName 2)) rfl S.nd (pi_str (pv 0)) (blkOk_by (N := ["value", "words", "sign"]) (sc := defScope s_lisname) (by decide +kernel)) (fun _ _ _ _ _ => (pg_name (i := 2) S.nd rfl (Or.inl rfl))) (fun _ _ _ _ _ => (pts_one (pt_cmpR op_notInS (pv 2) pe_str (by rfl)))) (fun _ _ _ _ _ => (pv 2))) (pe_lst pa_nil) (nomark _)))))))))), ?_⟩
    try dsimp only [cxOf, Cx.nox, Cx.wish]
    walk_at "s"
    refine ⟨_, _, rfl, rfl, by decide +kernel, sz_of (by decide +kernel), r_newStrs fun p1 H1 hp1 e1 h1 => ?_⟩
    generalize hsp : Txt.split _ _ = ws at h1
    have hws : ws = wordsS := by rw [← hsp]; decide +kernel
    clear hsp
    subst hws
    walk_at "s"
    refine r_isiStr (hv.ex e1) ?_
    walk_at "s"
    have q0 := q H1 e1
    refine if_by (fun h => ?_) (fun h => ?_)
    · have e : isStr d = false := by simpa using h
      walk_at "s"
      cases d <;> first | (simp [isStr] at e; done) | exact q0
    obtain ⟨z, rfl⟩ : ∃ z, d = .str z := by cases d <;> simp [isStr] at h ⊢
    cases hv
    have hz := hsh z rfl
    walk_at "s"
    have hlz : z.cps.toList.length = z.length := len_list z
    refine r_lenS (sz_of (by omega)) ?_
    walk_at "s"
    by_cases h1c : (1 : Int) ≤ (z.length : Int)
    case neg =>
      rw [decide_eq_false h1c]
      walk_at "s"
      refine if_dt (by rfl) ?_
      walk_at "s"
      have h1' : ¬ 1 ≤ z.length := by omega
      rw [show isNameD (.str z) = false by simp [isNameD, nameS, h1']] at q0
      exact q0
    rw [decide_eq_true h1c]
    walk_at "s"
    refine if_by (fun h => ?_) (fun h => ?_)
    · walk_at "s"
      have h1' : ¬ z.length ≤ 12 := by
        have h' : ¬ ((z.length : Int) ≤ 12) := of_decide_eq_false (by simpa using h)
        omega
      rw [show isNameD (.str z) = false by simp [isNameD, nameS, h1']] at q0
      exact q0
    have h2 : z.length ≤ 12 := by
      have h' : ((z.length : Int) ≤ 12) := of_decide_eq_true (by simpa using h)
      omega
    walk_at "s"
    refine r_in (.inl (.of h1)) rfl (by decide +kernel) ?_
    walk_at "s"
    refine if_by (fun h => ?_) (fun h => ?_)
    · walk_at "s"
      have h' : inV (.str z) wordsV = true := h
      rw [show isNameD (.str z) = false by simp [isNameD, nameS, h']] at q0
      exact q0
    have hnw : inV (.str z) wordsV = false := h
    obtain ⟨c, hc⟩ : ∃ c, z.cps.toList[0]? = some c := ⟨_, List.getElem?_eq_getElem (by omega)⟩
    walk_at "s"
    refine r_ixS (by omega) (c := c) (by rw [show ((0 : Int)) = ((0 : Nat) : Int) from rfl]; exact atI_nat hc) ?_
    walk_at "s"
    refine r_inS ?_
    rw [let_in]
    have hall : isNameD (.str z) = (isLet c && z.cps.toList.all fun c => isLet c || isDig c) := by
      show nameS z = _
      unfold nameS
      rw [decide_eq_true ⟨by omega, h2⟩, hnw, headD_of hc]
      rfl
    walk_at "s"
    refine if_by (fun h3 => ?_) (fun h3 => ?_)
    · walk_at "s"
      refine (lcS (fun i acc D' H' => Ex H1 H' ∧ acc = ((z.cps.toList.take i).filter fun c => !(isLet c || isDig c)).map fun c => V.str ⟨#[c]⟩) (fun D' H2 _ e _ => ⟨e, rfl⟩) (fun i c acc D' H' hx hlt hD hacc p => ?_) (fun acc D' H' _ hD hacc p => ?_))
      · obtain ⟨e, rfl⟩ := p
        have hx' : z.cps.toList[i]? = some c := by rw [Array.getElem?_toList]; exact hx
        have hi : i < z.cps.toList.length := (List.getElem?_eq_some_iff.mp hx').1
        walk_at "s"
        refine r_notInS ?_
        rw [sign_in]
        walk_at "s"
        refine if_by (fun h => ?_) (fun h => ?_)
        · walk_at "s"
          refine k_lc hacc hlt (by omega) fun H5 h5 k5 => ⟨e.mut hD k5, ?_⟩
          rw [filter_takeC hx', if_pos h, List.map_append]; rfl
        · refine k_lcN hacc hlt ⟨e, ?_⟩
          rw [filter_takeC hx', if_neg (by rw [h]; decide), List.append_nil]
      · obtain ⟨e, rfl⟩ := p
        rw [show z.cps.size = z.cps.toList.length by simp, List.take_length] at hacc
        walk_at "s"
        rename_i p5 H5 hp5 e5 h5
        have hfl : (z.cps.toList.filter fun c => !(isLet c || isDig c)).length ≤ 90000 := by
          have := List.length_filter_le (fun c => !(isLet c || isDig c)) z.cps.toList
          omega
        refine r_eqD2 (M := []) (dv_signs (e5 _ _ hacc)) (dv_nilL h5) (nice_signs (n := 59) (nice.mk (okD_str _ _) (nice.lay hni)) hfl (fun c hc => (List.mem_filter.mp hc).1)) (by decide +kernel) ?_
        have q' := q H5 ((e1.trans e).trans e5)
        rw [hall, h3, Bool.true_and] at q'
        rw [eqv_nil, isEmpty_map2', isEmpty_filterC]
        exact q'
    · rw [hall, h3] at q0
      exact q0
end
end BkL
end
section
namespace BkL
open PySem PySem.Spec L2 BkG
local macro_rules | `(tactic| walk_at "w1") => `(tactic| first
  | with_reducible refine w_seq ?_ | with_reducible refine w_set ?_ | with_reducible refine w_ret ?_ | with_reducible refine w_drop ?_ | with_reducible refine w_ifS ?_
  | with_reducible refine w_next ?_ | with_reducible refine w_c ?_ | ((with_reducible refine' w_var ?hv ?_); (case hv => rfl)) | with_reducible refine w_op ?_ | with_reducible refine w_cons ?_ | with_reducible refine w_nil ?_
  | with_reducible refine w_cb ?_ | with_reducible refine w_call ?_ | with_reducible refine w_tup ?_ | with_reducible refine w_lst ?_ | with_reducible refine w_bm ?_ | with_reducible refine w_bm0 ?_ | with_reducible refine w_un ?_
  | with_reducible refine w_test ?_ | with_reducible refine w_B ?_ | with_reducible refine k_B ?_ | with_reducible refine w_and ?_ | with_reducible refine w_or ?_ | with_reducible refine w_not ?_ | with_reducible refine w_if ?_
  | with_reducible refine w_andV ?_ | with_reducible refine w_orV ?_ | with_reducible refine w_notV ?_ | with_reducible refine k_andV ?_ | with_reducible refine k_orV ?_ | with_reducible refine k_notV ?_
  | with_reducible refine w_chain ?_ | with_reducible refine ex_bl ?_ | with_reducible refine w_isN ?_ | with_reducible refine w_notN ?_ | with_reducible refine w_yes ?_
  | with_reducible refine r_I0 ?_ | with_reducible refine r_U ?_ | with_reducible refine r_eqI ?_ | with_reducible refine r_neI ?_ | with_reducible refine r_eqS ?_ | with_reducible refine r_neS ?_ | with_reducible refine r_eqB ?_ | with_reducible refine r_neB ?_
  | with_reducible refine r_abs ?_ | with_reducible refine r_int ?_ | with_reducible refine r_intB ?_
  | with_reducible refine w_sl ?_ | with_reducible refine w_nop ?_ | with_reducible refine w_part ?_ | with_reducible refine k_part ?_ | with_reducible refine w_revL ?_
  | with_reducible refine w_asg ?_ | with_reducible refine w_gname ?_ | with_reducible refine w_gsub ?_ | with_reducible refine w_gnil ?_ | with_reducible refine w_gcons ?_ | with_reducible refine w_retN ?_ | with_reducible refine w_brk ?_ | with_reducible refine w_cont ?_
  | with_reducible refine w_par ?_ | with_reducible refine w_par3 ?_ | with_reducible refine par_ok ?_ | with_reducible refine par_ok3 ?_ | ((with_reducible refine' w_aug ?hv ?_); (case hv => rfl)) | with_reducible refine i_I ?_
  | with_reducible refine w_forL ?_ | with_reducible refine w_forT ?_ | with_reducible refine w_forR1 ?_ | with_reducible refine w_forE ?_ | with_reducible refine w_lcL ?_ | with_reducible refine w_lcT ?_ | with_reducible refine w_lcR ?_
  | ((with_reducible refine a_tup ?hz ?_); (case hz => exact Nat.le_of_ble_eq_true rfl); intro _ _ _ _ _) | ((with_reducible refine a_lst ?hz ?_); (case hz => exact Nat.le_of_ble_eq_true rfl); intro _ _ _ _ _)
  | ((with_reducible refine k_turn1 ?hw ?_); (case hw => rfl)) | ((with_reducible refine k_turn ?hw ?_); (case hw => rfl)) | with_reducible refine r_isV ?_ | with_reducible refine r_isNotV ?_ | with_reducible refine r_isN ?_ | with_reducible refine r_notN ?_ | with_reducible refine w_lcZ ?_
  | ((with_reducible refine r_I ?hc ?_); (case hc => first | decide | assumption))
  | with_reducible refine w_forET ?_
  | ((with_reducible refine w_dnewK ?_); intro _ _ _ _ _) | with_reducible refine w_dput ?_ | with_reducible refine w_lstRg ?_ | with_reducible refine w_lstZip ?_ | with_reducible refine w_callK ?_
  | (with_reducible refine if_pos' ?_) | (with_reducible refine if_neg' ?_))
local macro_rules | `(tactic| walk_at "w") => `(tactic| repeat (walk_at "w1"))

local macro_rules | `(tactic| walk_at "c") => `(tactic| repeat (first | walk_at "w1" | refine if_dt (by decide +kernel) ?_ | refine if_df (by decide +kernel) ?_))
def errNames : List Str := ["InvalidWord", "InvalidProgram", "InvalidModule", "InvalidCode", "InvalidValue", "InvalidMoment", "InvalidQuestion", "InvalidText", "Refused"]
/-- the error of a number is raised -/
def spRaised (P : Program) (K : PySem.W.Frag) (mg : Str → Option Value) : Sp := fun vs H Q E => ∃ (i : Nat) (v : V), vs = [.int (i : Int), v] ∧ i < 9 ∧ ErrTo P K mg E (errNames.getD i "") v H
section
variable {P : Program} {w : World} {K : PySem.W.Frag} {mg : Str → Option Value} {base : Heap} {c0 c1 c2 c3 c4 c5 c6 c7 c8 f0 f1 f2 f3 f4 f5 f6 f7 f8 : Addr}
abbrev s_raised : Stmt := topS 24
theorem sc_raised : FnScope ["turn", "thing"] ["turn", "thing"] (defScope s_raised) := ⟨rfl, rfl, rfl, by decide +kernel, rfl, by decide +kernel, by decide +kernel⟩
theorem C_raised (F : Fn K mg "_law_raised" s_raised ["turn", "thing"]) (Z : Bz mg) (T_InvalidWord : PySem.BkErr.ErrTxt P K mg "InvalidWord" c0 f0) (T_InvalidProgram : PySem.BkErr.ErrTxt P K mg "InvalidProgram" c1 f1) (T_InvalidModule : PySem.BkErr.ErrTxt P K mg "InvalidModule" c2 f2) (T_InvalidCode : PySem.BkErr.ErrTxt P K mg "InvalidCode" c3 f3) (T_InvalidValue : PySem.BkErr.ErrTxt P K mg "InvalidValue" c4 f4) (T_InvalidMoment : PySem.BkErr.ErrTxt P K mg "InvalidMoment" c5 f5) (T_InvalidQuestion : PySem.BkErr.ErrTxt P K mg "InvalidQuestion" c6 f6) (T_InvalidText : PySem.BkErr.ErrTxt P K mg "InvalidText" c7 f7) (T_Refused : PySem.BkErr.ErrTxt P K mg "Refused" c8 f8) : CalN P w K mg base 1 "_law_raised" (spRaised P K mg) := by
  have S := sc_raised
  refine F.calN S (fun vs H Q E h => ?_) (fun f cdv A' outer s H vs Q E hr h => ?_)
  · obtain ⟨i, v, rfl, _⟩ := h; rfl
  · obtain ⟨i, v, rfl, hi, q⟩ := h
    refine ⟨_, (pss_cons (ps_if (pt_cmpR op_eq (pv 0) pe_int (nomark _)) (pss_one (ps_raiseErrN rfl T_InvalidWord hr (L2N.takes_of rfl rfl rfl rfl) (pa_cons (pv 1) pa_nil))) pss_nil)
      (pss_cons (ps_if (pt_cmpR op_eq (pv 0) pe_int (nomark _)) (pss_one (ps_raiseErrN rfl T_InvalidProgram hr (L2N.takes_of rfl rfl rfl rfl) (pa_cons (pv 1) pa_nil))) pss_nil)
      (pss_cons (ps_if (pt_cmpR op_eq (pv 0) pe_int (nomark _)) (pss_one (ps_raiseErrN rfl T_InvalidModule hr (L2N.takes_of rfl rfl rfl rfl) (pa_cons (pv 1) pa_nil))) pss_nil)
      (pss_cons (ps_if (pt_cmpR op_eq (pv 0) pe_int (nomark _)) (pss_one (ps_raiseErrN rfl T_InvalidCode hr (L2N.takes_of rfl rfl rfl rfl) (pa_cons (pv 1) pa_nil))) pss_nil)
      (pss_cons (ps_if (pt_cmpR op_eq (pv 0) pe_int (nomark _)) (pss_one (ps_raiseErrN rfl T_InvalidValue hr (L2N.takes_of rfl rfl rfl rfl) (pa_cons (pv 1) pa_nil))) pss_nil)
      (pss_cons (ps_if (pt_cmpR op_eq (pv 0) pe_int (nomark _)) (pss_one (ps_raiseErrN rfl T_InvalidMoment hr (L2N.takes_of rfl rfl rfl rfl) (pa_cons (pv 1) pa_nil))) pss_nil)
      (pss_cons (ps_if (pt_cmpR op_eq (pv 0) pe_int (nomark _)) (pss_one (ps_raiseErrN rfl T_InvalidQuestion hr (L2N.takes_of rfl rfl rfl rfl) (pa_cons (pv 1) pa_nil))) pss_nil)
      (pss_cons (ps_if (pt_cmpR op_eq (pv 0) pe_int (nomark _)) (pss_one (ps_raiseErrN rfl T_InvalidText hr (L2N.takes_of rfl rfl rfl rfl) (pa_cons (pv 1) pa_nil))) pss_nil)
      (pss_one (ps_raiseErrN rfl T_Refused hr (L2N.takes_of rfl rfl rfl rfl) (pa_cons (pv 1) pa_nil))))))))))), ?_⟩
    try dsimp only [cxOf, Cx.nox, Cx.wish]
    rcases i with _ | _ | _ | _ | _ | _ | _ | _ | _ | i
    · walk_at "c"
      refine w_raiseErr ?_
      walk_at "w"
      exact a_err T_InvalidWord q
    · walk_at "c"
      refine w_raiseErr ?_
      walk_at "w"
      exact a_err T_InvalidProgram q
    · walk_at "c"
      refine w_raiseErr ?_
      walk_at "w"
      exact a_err T_InvalidModule q
    · walk_at "c"
      refine w_raiseErr ?_
      walk_at "w"
      exact a_err T_InvalidCode q
    · walk_at "c"
      refine w_raiseErr ?_
      walk_at "w"
      exact a_err T_InvalidValue q
    · walk_at "c"
      refine w_raiseErr ?_
      walk_at "w"
      exact a_err T_InvalidMoment q
    · walk_at "c"
      refine w_raiseErr ?_
      walk_at "w"
      exact a_err T_InvalidQuestion q
    · walk_at "c"
      refine w_raiseErr ?_
      walk_at "w"
      exact a_err T_InvalidText q
    · walk_at "c"
      refine w_raiseErr ?_
      walk_at "w"
      exact a_err T_Refused q
    · omega
end
end BkL
end
section
namespace BkL
open PySem PySem.Spec L2 BkG
local macro_rules | `(tactic| walk_at "w1") => `(tactic| first
  | with_reducible refine w_seq ?_ | with_reducible refine w_set ?_ | with_reducible refine w_ret ?_ | with_reducible refine w_drop ?_ | with_reducible refine w_ifS ?_
  | with_reducible refine w_next ?_ | with_reducible refine w_c ?_ | ((with_reducible refine' w_var ?hv ?_); (case hv => rfl)) | with_reducible refine w_op ?_ | with_reducible refine w_cons ?_ | with_reducible refine w_nil ?_
  | with_reducible refine w_cb ?_ | with_reducible refine w_call ?_ | with_reducible refine w_tup ?_ | with_reducible refine w_lst ?_ | with_reducible refine w_bm ?_ | with_reducible refine w_bm0 ?_ | with_reducible refine w_un ?_
  | with_reducible refine w_test ?_ | with_reducible refine w_B ?_ | with_reducible refine k_B ?_ | with_reducible refine w_and ?_ | with_reducible refine w_or ?_ | with_reducible refine w_not ?_ | with_reducible refine w_if ?_
  | with_reducible refine w_andV ?_ | with_reducible refine w_orV ?_ | with_reducible refine w_notV ?_ | with_reducible refine k_andV ?_ | with_reducible refine k_orV ?_ | with_reducible refine k_notV ?_
  | with_reducible refine w_chain ?_ | with_reducible refine ex_bl ?_ | with_reducible refine w_isN ?_ | with_reducible refine w_notN ?_ | with_reducible refine w_yes ?_
  | with_reducible refine r_I0 ?_ | with_reducible refine r_U ?_ | with_reducible refine r_eqI ?_ | with_reducible refine r_neI ?_ | with_reducible refine r_eqS ?_ | with_reducible refine r_neS ?_ | with_reducible refine r_eqB ?_ | with_reducible refine r_neB ?_
  | with_reducible refine r_abs ?_ | with_reducible refine r_int ?_ | with_reducible refine r_intB ?_
  | with_reducible refine w_sl ?_ | with_reducible refine w_nop ?_ | with_reducible refine w_part ?_ | with_reducible refine k_part ?_ | with_reducible refine w_revL ?_
  | with_reducible refine w_asg ?_ | with_reducible refine w_gname ?_ | with_reducible refine w_gsub ?_ | with_reducible refine w_gnil ?_ | with_reducible refine w_gcons ?_ | with_reducible refine w_retN ?_ | with_reducible refine w_brk ?_ | with_reducible refine w_cont ?_
  | with_reducible refine w_par ?_ | with_reducible refine w_par3 ?_ | with_reducible refine par_ok ?_ | with_reducible refine par_ok3 ?_ | ((with_reducible refine' w_aug ?hv ?_); (case hv => rfl)) | with_reducible refine i_I ?_
  | with_reducible refine w_forL ?_ | with_reducible refine w_forT ?_ | with_reducible refine w_forR1 ?_ | with_reducible refine w_forE ?_ | with_reducible refine w_lcL ?_ | with_reducible refine w_lcT ?_ | with_reducible refine w_lcR ?_
  | ((with_reducible refine a_tup ?hz ?_); (case hz => exact Nat.le_of_ble_eq_true rfl); intro _ _ _ _ _) | ((with_reducible refine a_lst ?hz ?_); (case hz => exact Nat.le_of_ble_eq_true rfl); intro _ _ _ _ _)
  | ((with_reducible refine k_turn1 ?hw ?_); (case hw => rfl)) | ((with_reducible refine k_turn ?hw ?_); (case hw => rfl)) | with_reducible refine r_isV ?_ | with_reducible refine r_isNotV ?_ | with_reducible refine r_isN ?_ | with_reducible refine r_notN ?_ | with_reducible refine w_lcZ ?_
  | ((with_reducible refine r_I ?hc ?_); (case hc => first | decide | assumption))
  | with_reducible refine w_forET ?_
  | ((with_reducible refine w_dnewK ?_); intro _ _ _ _ _) | with_reducible refine w_dput ?_ | with_reducible refine w_lstRg ?_ | with_reducible refine w_lstZip ?_ | with_reducible refine w_callK ?_
  | (with_reducible refine if_pos' ?_) | (with_reducible refine if_neg' ?_))
local macro_rules | `(tactic| walk_at "w") => `(tactic| repeat (walk_at "w1"))

theorem w_xfX {K : PySem.W.Frag} {a : Addr} {cls : Value} {dd : Option Addr} {f : Str} {te : TE} {σ : L2.St} {H : Hp} {Q : VK} (h : te σ H fun x H1 => x = .ref a ∧ ∃ (D e : Addr) (fs : List (Str × V)) (v : V), cls = .ref D ∧ XfC K D ∧ PySem.W.findIn K (.ref D) f = some none ∧ dd = some e ∧ H1 e = some (.xd fs) ∧ fs.lookup f = some v ∧ Q v H1) : tXfX K a cls dd f te σ H Q := h
local macro_rules | `(tactic| walk_at "h") => `(tactic| repeat (first | walk_at "w1" | with_reducible refine w_callS ?_ | with_reducible refine w_xfX ?_))
/-- what the text says of its errors: cs their classes (the tenth is made of nothing), CB their own base -/
structure ErrsX (P : Program) (K : PySem.W.Frag) (mg : Str → Option Value) (cs : Nat → Addr) (CB : Addr) : Prop where
  T : ∀ i < 9, ∃ f, PySem.BkErr.ErrTxt P K mg (errNames.getD i "") (cs i) f
  I : ∀ i < 10, ExcI K (cs i)
  kit : ∀ i < 10, ∀ j < 10, PySem.W.kitOne K (.ref (cs i)) (.ref (cs j)) = some (decide (i = j))
  ve : ∀ i < 9, PySem.W.kitOne K (.ref (cs i)) (.type "ValueError") = some true
  ex : ∀ i < 10, PySem.W.exmOne K (.ref (cs i)) (.ref CB) = some true
def spKinds : Sp := fun vs H Q _ => ∃ (v : V) (d : PyData), vs = [v] ∧ Dv [] H v d ∧ plainD 1 d = true ∧ ∀ H', Ex H H' → Q (.bl true) H'
def tenB (i : Nat) : List Bool := (List.range 10).map fun j => decide (i = j)
theorem dp_bls {K : PySem.W.Frag} {H : Hp} {a : Addr} {bs : List Bool} (h : SqL K H a (bs.map V.bl)) : Dp K H (.ref a) (.list (bs.map PyData.bool)) := by
  refine .lst h (dpAll_of (by simp) fun i v d h1 h2 => ?_)
  rw [List.getElem?_map] at h1 h2
  cases e : bs[i]? with
  | none => rw [e] at h1; cases h1
  | some n => rw [e] at h1 h2; cases h1; cases h2; exact .bl n
theorem shaped_ten : ∀ i < 9, SeqAt.shaped (.list ((tenB i).map PyData.bool)) = true := by decide +kernel
theorem eqv_ten : ∀ i < 9, PyData.eqv (.list ((tenB i).map PyData.bool)) (.list ((tenB i).map PyData.bool)) = true := by decide +kernel
theorem due_ten : ∀ i : Nat, i < 9 → ((List.range 9).map fun (j : Nat) => decide ((j : Int) = (i : Int))) ++ [false] = tenB i := by decide +kernel
theorem range_more {m : Nat} {f : Nat → V} : (List.range (m + 1)).map f = (List.range m).map f ++ [f m] := by rw [List.range_succ, List.map_append]; rfl
section
variable {P : Program} {w : World} {K : PySem.W.Frag} {mg : Str → Option Value} {base : Heap} {cs : Nat → Addr} {CB : Addr}
abbrev s_kinds : Stmt := topS 25
theorem sc_kinds : FnScope ["thing", "turn", "told", "wrong", "at"] ["thing"] (defScope s_kinds) := ⟨rfl, rfl, rfl, by decide +kernel, rfl, by decide +kernel, by decide +kernel⟩
set_option pp.maxSteps 400 in
theorem C_kinds (F : Fn K mg "_law_kinds" s_kinds ["thing"]) (Z : Bz mg) (EX : ErrsX P K mg cs CB) (GG : ClsG K) (gm_BackError : mg "BackError" = some (.ref CB)) (z_ValueError : mg "ValueError" = none) (g9 : mg "InvalidCommand" = some (.ref (cs 9)))
    (q_InvalidCommand : PySem.W.excIn K (cs 9) [.type "ValueError", .type "Exception", .type "BaseException", .type "object"] "ValueError.__new__" = true) (k_InvalidCommand : PySem.W.keepIn K (.ref (cs 9)) = true) (t_InvalidCommand : PySem.W.typeIn K (.ref (cs 9)) = some (.type "type"))
    (CRa : CalN P w K mg base 1 "_law_raised" (spRaised P K mg)) (CSH : CalH P w K mg base 3 "_law_same" (spSameH 2)) : Cal P w K mg base 4 "_law_kinds" spKinds := by
  have S := sc_kinds
  have gc_InvalidCommand := g9
  have F_InvalidCommand := PySem.F.excBase_ValueError
  have e_InvalidCommand := (EX.I 9 (by decide)).sb
  have g_InvalidWord : ∃ u, mg "InvalidWord" = some u ∧ RelV (.ref (cs 0)) u := let ⟨_, T⟩ := EX.T 0 (by decide); ⟨_, T.gC, rfl⟩
  have g_InvalidProgram : ∃ u, mg "InvalidProgram" = some u ∧ RelV (.ref (cs 1)) u := let ⟨_, T⟩ := EX.T 1 (by decide); ⟨_, T.gC, rfl⟩
  have g_InvalidModule : ∃ u, mg "InvalidModule" = some u ∧ RelV (.ref (cs 2)) u := let ⟨_, T⟩ := EX.T 2 (by decide); ⟨_, T.gC, rfl⟩
  have g_InvalidCode : ∃ u, mg "InvalidCode" = some u ∧ RelV (.ref (cs 3)) u := let ⟨_, T⟩ := EX.T 3 (by decide); ⟨_, T.gC, rfl⟩
  have g_InvalidValue : ∃ u, mg "InvalidValue" = some u ∧ RelV (.ref (cs 4)) u := let ⟨_, T⟩ := EX.T 4 (by decide); ⟨_, T.gC, rfl⟩
  have g_InvalidMoment : ∃ u, mg "InvalidMoment" = some u ∧ RelV (.ref (cs 5)) u := let ⟨_, T⟩ := EX.T 5 (by decide); ⟨_, T.gC, rfl⟩
  have g_InvalidQuestion : ∃ u, mg "InvalidQuestion" = some u ∧ RelV (.ref (cs 6)) u := let ⟨_, T⟩ := EX.T 6 (by decide); ⟨_, T.gC, rfl⟩
  have g_InvalidText : ∃ u, mg "InvalidText" = some u ∧ RelV (.ref (cs 7)) u := let ⟨_, T⟩ := EX.T 7 (by decide); ⟨_, T.gC, rfl⟩
  have g_Refused : ∃ u, mg "Refused" = some u ∧ RelV (.ref (cs 8)) u := let ⟨_, T⟩ := EX.T 8 (by decide); ⟨_, T.gC, rfl⟩
  have g_InvalidCommand : ∃ u, mg "InvalidCommand" = some u ∧ RelV (.ref (cs 9)) u := ⟨_, g9, rfl⟩
  refine F.cal S (fun vs H Q E h => ?_) (fun f cdv A' outer s H vs Q E hr h => ?_)
  · obtain ⟨v, d, rfl, _⟩ := h; rfl
  · obtain ⟨v, d, rfl, hv, hd, q⟩ := h
    refine ⟨_, (pss_cons (ps_for PassesOwn.never rfl (pi_range1 (by rfl) Z.range (pa_cons pe_int pa_nil)) (pg_name (i := 1) S.nd rfl (Or.inr rfl)) (pss_cons (ps_set (i := 2) S.nd rfl (Or.inl rfl) (pe_lst pa_nil))
      (pss_cons (L2N.ps_try_as (i := 3) rfl rfl S.nd rfl rfl ⟨(by rfl), (by decide), .inl gm_BackError⟩ takesN0 (fun W pn xe tk _ => (pss_one (ps_expr (pe_crN CRa hr (by omega) (by rfl) tk (pa_cons (pv 1) (pa_cons (pv 0) pa_nil)))))) (fun a oe cls d pn hz hf => have hot := hotN hz hf; (pss_cons (ps_set (i := 2) S.nd rfl (Or.inl rfl) (pe_lst (pa_cons (pe_callB (show CallR _ _ (rIsX K a cls d) from call_isX GG hz.zc hf) (by rfl) Z.isinstance (by decide +kernel) (pa_cons (pv 3) (pa_cons ((pe_gc (by rfl) g_InvalidWord)) pa_nil))) (pa_cons (pe_callB (show CallR _ _ (rIsX K a cls d) from call_isX GG hz.zc hf) (by rfl) Z.isinstance (by decide +kernel) (pa_cons (pv 3) (pa_cons ((pe_gc (by rfl) g_InvalidProgram)) pa_nil))) (pa_cons (pe_callB (show CallR _ _ (rIsX K a cls d) from call_isX GG hz.zc hf) (by rfl) Z.isinstance (by decide +kernel) (pa_cons (pv 3) (pa_cons ((pe_gc (by rfl) g_InvalidModule)) pa_nil))) pa_nil)))))
      (pss_cons (ps_set (i := 2) S.nd rfl (Or.inl rfl) (pe_op op_cat (pv 2) (pe_lst (pa_cons (pe_callB (show CallR _ _ (rIsX K a cls d) from call_isX GG hz.zc hf) (by rfl) Z.isinstance (by decide +kernel) (pa_cons (pv 3) (pa_cons ((pe_gc (by rfl) g_InvalidCode)) pa_nil))) (pa_cons (pe_callB (show CallR _ _ (rIsX K a cls d) from call_isX GG hz.zc hf) (by rfl) Z.isinstance (by decide +kernel) (pa_cons (pv 3) (pa_cons ((pe_gc (by rfl) g_InvalidValue)) pa_nil))) (pa_cons (pe_callB (show CallR _ _ (rIsX K a cls d) from call_isX GG hz.zc hf) (by rfl) Z.isinstance (by decide +kernel) (pa_cons (pv 3) (pa_cons ((pe_gc (by rfl) g_InvalidMoment)) pa_nil))) pa_nil))))))
      (pss_cons (ps_set (i := 2) S.nd rfl (Or.inl rfl) (pe_op op_cat (pv 2) (pe_lst (pa_cons (pe_callB (show CallR _ _ (rIsX K a cls d) from call_isX GG hz.zc hf) (by rfl) Z.isinstance (by decide +kernel) (pa_cons (pv 3) (pa_cons ((pe_gc (by rfl) g_InvalidQuestion)) pa_nil))) (pa_cons (pe_callB (show CallR _ _ (rIsX K a cls d) from call_isX GG hz.zc hf) (by rfl) Z.isinstance (by decide +kernel) (pa_cons (pv 3) (pa_cons ((pe_gc (by rfl) g_InvalidText)) pa_nil))) (pa_cons (pe_callB (show CallR _ _ (rIsX K a cls d) from call_isX GG hz.zc hf) (by rfl) Z.isinstance (by decide +kernel) (pa_cons (pv 3) (pa_cons ((pe_gc (by rfl) g_Refused)) pa_nil))) (pa_cons (pe_callB (show CallR _ _ (rIsX K a cls d) from call_isX GG hz.zc hf) (by rfl) Z.isinstance (by decide +kernel) (pa_cons (pv 3) (pa_cons ((pe_gc (by rfl) g_InvalidCommand)) pa_nil))) pa_nil)))))))
      (pss_one (ps_if (PW.pt (pw_or (pt_cmpR (show OpR _ _ (rNeD K) from op_neD hr.units) (pv 2) (pe_op op_cat (pe_lcH (own := [("at", 4)]) (g := (gName 4)) (tt := tYes) hot List.mem_cons_self S.nd (PIC.ofH (L2H.pi_range1H (by rfl) Z.range (pa_cons pe_int pa_nil))) (blkOk_by (N := ["thing", "turn", "told", "wrong", "at"]) (sc := defScope s_kinds) (by decide +kernel)) (fun _ _ _ _ _ => ⟨(pg_name (i := 4) S.nd rfl (Or.inl rfl)), pts_nil, (pe_cmpR op_eq (pv 4) (pv 1) (nomark _))⟩)) (pe_lst (pa_cons pe_bl pa_nil))) (nomark _)) (pw_or (pt_not (pt_val (pe_callB (show CallR _ _ (rIsX K a cls d) from call_isX GG hz.zc hf) (by rfl) Z.isinstance (by decide +kernel) (pa_cons (pv 3) (pa_cons (pe_bltn (v := .ty "ValueError") (by rfl) z_ValueError (by decide +kernel) rfl) pa_nil))))) (pw_or1 (pt_not (pt_val (pe_cH CSH (roomS hr) (by omega) ⟨_, hot, List.mem_cons_self⟩ (by rfl) (pa_cons (show PE _ _ (tXfX K a cls d _ _) from pe_xfX hz.zc hf (pv 3)) (pa_cons (pv 0) pa_nil))))))))) (pss_one (ps_ret pe_bl)) pss_nil)))))))
      (pss_one (ps_if (pt_cmpR (op_eqD hr.units) (pv 2) (pe_lst pa_nil) (nomark _)) (pss_one (ps_ret pe_bl)) pss_nil)))))
      (pss_one (L2N.ps_try_as (i := 3) rfl rfl S.nd rfl rfl ⟨(by rfl), (by decide), .inl gm_BackError⟩ takesN0 (fun W pn xe tk _ => (pss_one (L2N.ps_raise rfl tk (pmk_own0 F_InvalidCommand q_InvalidCommand gc_InvalidCommand k_InvalidCommand (raises_own e_InvalidCommand t_InvalidCommand) (by rfl))))) (fun a oe cls d pn hz hf => (pss_one (ps_ret (pe_and (pe_callB (show CallR _ _ (rIsX K a cls d) from call_isX GG hz.zc hf) (by rfl) Z.isinstance (by decide +kernel) (pa_cons (pv 3) (pa_cons ((pe_gc (by rfl) g_InvalidCommand)) pa_nil))) (pe_and (pe_not (pe_callB (show CallR _ _ (rIsX K a cls d) from call_isX GG hz.zc hf) (by rfl) Z.isinstance (by decide +kernel) (pa_cons (pv 3) (pa_cons ((pe_gc (by rfl) g_Refused)) pa_nil)))) (pe_one (pe_not (pe_callB (show CallR _ _ (rIsX K a cls d) from call_isX GG hz.zc hf) (by rfl) Z.isinstance (by decide +kernel) (pa_cons (pv 3) (pa_cons ((pe_gc (by rfl) g_InvalidText)) pa_nil))))))))))))), ?_⟩
    try dsimp only [cxOf, Cx.nox, Cx.wish]
    walk_at "h"
    refine a_rng1 (n := 9) rfl (by omega) (fun i σ' H' => Ex H H' ∧ ∃ (x1 x2 x3 x4 : Option V), σ' = [some v, x1, x2, x3, x4]) ⟨fun _ _ h => h, _, _, _, _, rfl⟩ (fun i σ' H1 hi p => ?_) (fun σ' H1 p => ?_)
    · obtain ⟨e1, x1, x2, x3, x4, rfl⟩ := p
      walk_at "h"
      rename_i l2 H2 hl2 e2 g2
      refine ⟨i, v, rfl, hi, fun C fI dd H3 T hdd e3 hx => ?_⟩
      obtain ⟨fI', T'⟩ := EX.T i hi
      obtain rfl : C = cs i := by
        have := T.gC.symm.trans T'.gC
        exact Value.ref.inj (Option.some.inj this)
      refine ⟨true, EX.ex i (by omega), fun _ a ha => ?_, fun z => by cases z⟩
      have isx : ∀ j < 10, ∀ {G : Hp} {Q' : VK}, Ex H3 G → Q' (.bl (decide (i = j))) G → rIsX K a (.ref (cs i)) (some dd) [.ref a, .ref (cs j)] G Q' := fun j hj G Q' e q' =>
        ⟨cs i, .ref (cs j), .ref (cs j), _, rfl, rfl, .inr ⟨dd, _, rfl, e _ _ hx⟩, EX.I i (by omega), fun u hu => hu, EX.kit i (by omega) j hj, q'⟩
      walk_at "h"
      refine isx 0 (by omega) (fun _ _ h => h) ?_
      walk_at "h"
      refine isx 1 (by omega) (fun _ _ h => h) ?_
      walk_at "h"
      refine isx 2 (by omega) (fun _ _ h => h) ?_
      walk_at "h"
      rename_i l4 H4 hl4 e4 g4
      refine isx 3 (by omega) e4 ?_
      walk_at "h"
      refine isx 4 (by omega) e4 ?_
      walk_at "h"
      refine isx 5 (by omega) e4 ?_
      walk_at "h"
      rename_i l5 H5 hl5 e5 g5
      refine r_cat (e5 _ _ g4) g5 (show 3 + 3 ≤ 100000 by decide) fun l6 H6 hl6 e6 g6 => ?_
      have e46 := (e4.trans e5).trans e6
      walk_at "h"
      refine isx 6 (by omega) e46 ?_
      walk_at "h"
      refine isx 7 (by omega) e46 ?_
      walk_at "h"
      refine isx 8 (by omega) e46 ?_
      walk_at "h"
      refine isx 9 (by omega) e46 ?_
      walk_at "h"
      rename_i l7 H7 hl7 e7 g7
      refine r_cat (e7 _ _ g6) g7 (show 6 + 4 ≤ 100000 by decide) fun l8 H8 hl8 e8 g8 => ?_
      have e48 := (e46.trans e7).trans e8
      walk_at "h"
      refine a_lcR (n := 9) rfl (by omega) (lcR (fun m acc D' G => Ex H8 G ∧ acc = (List.range m).map fun (j : Nat) => V.bl (decide ((j : Int) = (i : Int)))) (fun D' G _ e _ => ⟨e, rfl⟩) (fun m acc D' G hm hlt hD hacc p => ?_) (fun acc D' G _ hD hacc p => ?_))
      · obtain ⟨e9, rfl⟩ := p
        walk_at "h"
        refine k_lc hacc hlt (by omega) fun G5 h5 k5 => ⟨Ex.mut e9 hD k5, ?_⟩
        rw [range_more]
      obtain ⟨e9, rfl⟩ := p
      walk_at "h"
      rename_i l10 H10 hl10 e10 g10
      refine r_cat (e10 _ _ hacc) g10 (by simp) fun l11 H11 hl11 e11 g11 => ?_
      have e8b := (e9.trans e10).trans e11
      have told : H11 l8 = some (.lst ((tenB i).map V.bl)) := e8b _ _ g8
      have due : H11 l11 = some (.lst ((tenB i).map V.bl)) := by
        rw [g11, ← due_ten i hi, List.map_append, List.map_map]; rfl
      refine r_neD (dp_bls (.of told)) (dp_bls (.of due)) (shaped_ten i hi) (shaped_ten i hi) ?_
      rw [eqv_ten i hi]
      walk_at "h"
      refine if_df (by rfl) ?_
      walk_at "h"
      have e311 := e48.trans e8b
      refine ⟨cs i, .ty "ValueError", .type "ValueError", true, rfl, rfl, .inr ⟨dd, _, rfl, e311 _ _ hx⟩, EX.I i (by omega), fun u hu => hu, EX.ve i hi, ?_⟩
      walk_at "h"
      refine if_df (by rfl) ?_
      walk_at "h"
      refine ⟨rfl, cs i, dd, _, v, rfl, ⟨T.ga, T.gg, T.exC, T.hdC⟩, T.noN, rfl, e311 _ _ hx, by rfl, ?_⟩
      walk_at "h"
      have eall := ((e1.trans e2).trans e3).trans e311
      refine ⟨[], v, v, d, rfl, hv.ex eall, hv.ex eall, hd, fun H12 e12 => ?_⟩
      walk_at "h"
      refine if_df (by rfl) ?_
      walk_at "h"
      rename_i l13 H13 hl13 e13 g13
      have e1113 := e12.trans e13
      refine r_eqD (dp_bls (.of (e1113 _ _ told))) (.lst (.of g13) .nil) (shaped_ten i hi) (by rfl) ?_
      rw [eqv_nil]
      walk_at "h"
      refine if_df (by rfl) ?_
      walk_at "h"
      exact ⟨eall.trans e1113, _, _, _, _, rfl⟩
    · obtain ⟨e1, x1, x2, x3, x4, rfl⟩ := p
      walk_at "h"
      refine ⟨true, EX.ex 9 (by omega), fun _ a ha => ?_, fun z => by cases z⟩
      have isx : ∀ j < 10, ∀ {G : Hp} {Q' : VK}, Q' (.bl (decide (9 = j))) G → rIsX K a (.ref (cs 9)) none [.ref a, .ref (cs j)] G Q' := fun j hj G Q' q' =>
        ⟨cs 9, .ref (cs j), .ref (cs j), _, rfl, rfl, .inl rfl, EX.I 9 (by omega), fun u hu => hu, EX.kit 9 (by omega) j hj, q'⟩
      walk_at "h"
      refine isx 9 (by omega) ?_
      walk_at "h"
      refine if_dt (by rfl) ?_
      walk_at "h"
      refine isx 8 (by omega) ?_
      walk_at "h"
      refine if_dt (by rfl) ?_
      walk_at "h"
      refine isx 7 (by omega) ?_
      walk_at "h"
      exact q _ e1
end
end BkL
end
section
namespace BkL
open PySem PySem.Spec L2 BkG
local macro_rules | `(tactic| walk_at "w1") => `(tactic| first
  | with_reducible refine w_seq ?_ | with_reducible refine w_set ?_ | with_reducible refine w_ret ?_ | with_reducible refine w_drop ?_ | with_reducible refine w_ifS ?_
  | with_reducible refine w_next ?_ | with_reducible refine w_c ?_ | ((with_reducible refine' w_var ?hv ?_); (case hv => rfl)) | with_reducible refine w_op ?_ | with_reducible refine w_cons ?_ | with_reducible refine w_nil ?_
  | with_reducible refine w_cb ?_ | with_reducible refine w_call ?_ | with_reducible refine w_tup ?_ | with_reducible refine w_lst ?_ | with_reducible refine w_bm ?_ | with_reducible refine w_bm0 ?_ | with_reducible refine w_un ?_
  | with_reducible refine w_test ?_ | with_reducible refine w_B ?_ | with_reducible refine k_B ?_ | with_reducible refine w_and ?_ | with_reducible refine w_or ?_ | with_reducible refine w_not ?_ | with_reducible refine w_if ?_
  | with_reducible refine w_andV ?_ | with_reducible refine w_orV ?_ | with_reducible refine w_notV ?_ | with_reducible refine k_andV ?_ | with_reducible refine k_orV ?_ | with_reducible refine k_notV ?_
  | with_reducible refine w_chain ?_ | with_reducible refine ex_bl ?_ | with_reducible refine w_isN ?_ | with_reducible refine w_notN ?_ | with_reducible refine w_yes ?_
  | with_reducible refine r_I0 ?_ | with_reducible refine r_U ?_ | with_reducible refine r_eqI ?_ | with_reducible refine r_neI ?_ | with_reducible refine r_eqS ?_ | with_reducible refine r_neS ?_ | with_reducible refine r_eqB ?_ | with_reducible refine r_neB ?_
  | with_reducible refine r_abs ?_ | with_reducible refine r_int ?_ | with_reducible refine r_intB ?_
  | with_reducible refine w_sl ?_ | with_reducible refine w_nop ?_ | with_reducible refine w_part ?_ | with_reducible refine k_part ?_ | with_reducible refine w_revL ?_
  | with_reducible refine w_asg ?_ | with_reducible refine w_gname ?_ | with_reducible refine w_gsub ?_ | with_reducible refine w_gnil ?_ | with_reducible refine w_gcons ?_ | with_reducible refine w_retN ?_ | with_reducible refine w_brk ?_ | with_reducible refine w_cont ?_
  | with_reducible refine w_par ?_ | with_reducible refine w_par3 ?_ | with_reducible refine par_ok ?_ | with_reducible refine par_ok3 ?_ | ((with_reducible refine' w_aug ?hv ?_); (case hv => rfl)) | with_reducible refine i_I ?_
  | with_reducible refine w_forL ?_ | with_reducible refine w_forT ?_ | with_reducible refine w_forR1 ?_ | with_reducible refine w_forE ?_ | with_reducible refine w_lcL ?_ | with_reducible refine w_lcT ?_ | with_reducible refine w_lcR ?_
  | ((with_reducible refine a_tup ?hz ?_); (case hz => exact Nat.le_of_ble_eq_true rfl); intro _ _ _ _ _) | ((with_reducible refine a_lst ?hz ?_); (case hz => exact Nat.le_of_ble_eq_true rfl); intro _ _ _ _ _)
  | ((with_reducible refine k_turn1 ?hw ?_); (case hw => rfl)) | ((with_reducible refine k_turn ?hw ?_); (case hw => rfl)) | with_reducible refine r_isV ?_ | with_reducible refine r_isNotV ?_ | with_reducible refine r_isN ?_ | with_reducible refine r_notN ?_ | with_reducible refine w_lcZ ?_
  | ((with_reducible refine r_I ?hc ?_); (case hc => first | decide | assumption))
  | with_reducible refine w_forET ?_
  | ((with_reducible refine w_dnewK ?_); intro _ _ _ _ _) | with_reducible refine w_dput ?_ | with_reducible refine w_lstRg ?_ | with_reducible refine w_lstZip ?_ | with_reducible refine w_callK ?_
  | (with_reducible refine if_pos' ?_) | (with_reducible refine if_neg' ?_))
local macro_rules | `(tactic| walk_at "w") => `(tactic| repeat (walk_at "w1"))

local macro_rules | `(tactic| walk_at "s") => `(tactic| repeat (first | walk_at "w1" | with_reducible refine w_lcS ?_ | with_reducible refine w_m1 ?_ | with_reducible refine w_m0 ?_))
def spLaw (K : PySem.W.Frag) : Sp := fun vs H Q _ => ∃ (a : Addr) (ns : List Int), vs = [.ref a] ∧ SqL K H a (ns.map V.int) ∧ ns.length ≤ 63 ∧ ∀ H', Q (.bl true) H'
def lettersS : Str := "abcdefghijklmnopqrstuvwxyz0123456789"
theorem letter_at : ∀ k : Nat, k < 36 → atI lettersS.cps.toList (k : Int) = some (lettersS.cps.toList.getD k 0) ∧ lettersS.cps.toList.getD k 0 < 128 := by decide +kernel
section
variable {P : Program} {w : World} {K : PySem.W.Frag} {mg : Str → Option Value} {base : Heap}
abbrev s_law : Stmt := topS 26
theorem sc_law : FnScope ["script", "deal", "letters", "turn", "word", "sign", "near", "value"] ["script"] (defScope s_law) := ⟨rfl, rfl, rfl, by decide +kernel, rfl, by decide +kernel, by decide +kernel⟩
set_option pp.maxSteps 400 in
theorem C_law {f0 : Addr} {fd : FuncData} (F : Fun K "law" "law" s_law f0 fd) (Z : Bz mg) (CD : Cal P w K mg base 1 "_law_draw" (spDraw K)) (CA : Cal P w K mg base 1 "_law_any" spAny) (CO : Cal P w K mg base 2 "_law_of" spOf) (CS : Cal P w K mg base 3 "_law_same" (spSame 2)) (CK : Cal P w K mg base 4 "_law_kinds" spKinds) (CN : CalK P w K mg base 1 "is_name" ["value"] spNameX) (CLn : Cal P w K mg base 1 "_law_is_name" spName) :
    FnOk P w K mg base CX0 5 f0 fd ["script"] (spLaw K) := by
  have S := sc_law
  refine F.ok S (fun vs H Q E h => ?_) (fun cdv A' outer s H vs Q E hr h => ?_)
  · obtain ⟨a, ns, rfl, _⟩ := h; rfl
  · obtain ⟨a, ns, rfl, ha, hl, q⟩ := h
    refine ⟨_, (pss_cons (ps_set (i := 1) S.nd rfl (Or.inr rfl) (pe_c0 CD hr (by omega) (by rfl) (pa_cons (pv 0) (pa_cons pe_int pa_nil))))
      (pss_cons (ps_if (pt_not (pt_val (pe_c0 CK hr (by omega) (by rfl) (pa_cons (pe_c0 CO hr (by omega) (by rfl) (pa_cons (pv 1) (pa_cons (pe_lst (pa_cons pe_non (pa_cons pe_bl (pa_cons pe_str (pa_cons (pe_tup (pa_cons pe_int (pa_cons pe_int pa_nil))) (pa_cons (pe_c0 CA hr (by omega) (by rfl) (pa_cons (pv 1) (pa_cons (pe_op op_pow pe_int pe_int) pa_nil))) (pa_cons (pe_tup (pa_cons pe_str (pa_cons pe_int pa_nil))) pa_nil))))))) pa_nil))) pa_nil)))) (pss_one (ps_ret pe_bl)) pss_nil)
      (pss_cons (ps_set (i := 2) S.nd rfl (Or.inr rfl) pe_str)
      (pss_cons (ps_for PassesOwn.never rfl (pi_range1 (by rfl) Z.range (pa_cons pe_int pa_nil)) (pg_name (i := 3) S.nd rfl (Or.inl rfl)) (pss_cons (ps_set (i := 4) S.nd rfl (Or.inl rfl) (pe_join pe_str (pe_lc (own := [("sign", 5)]) (g := (gName 5)) (tt := tYes) rfl S.nd (pi_range1 (by rfl) Z.range (pa_cons (pe_c0 CO hr (by omega) (by rfl) (pa_cons (pv 1) (pa_cons (pe_lst (pa_cons pe_int (pa_cons pe_int (pa_cons pe_int (pa_cons pe_int (pa_cons pe_int pa_nil)))))) pa_nil))) pa_nil)) (blkOk_by (N := ["script", "deal", "letters", "turn", "word", "sign", "near", "value"]) (sc := defScope s_law) (by decide +kernel)) (fun _ _ _ _ _ => (pg_name (i := 5) S.nd rfl (Or.inl rfl))) (fun _ _ _ _ _ => pts_nil) (fun _ _ _ _ _ => (pe_ix ix_str (pv 2) (pe_c0 CA hr (by omega) (by rfl) (pa_cons (pv 1) (pa_cons pe_int pa_nil))) (fun _ _ => rfl))))))
      (pss_cons (ps_set (i := 6) S.nd rfl (Or.inl rfl) (pe_lst (pa_cons (pv 4) (pa_cons (pe_op op_catS pe_str (pv 4)) (pa_cons (pe_upper (pv 4)) (pa_cons (pe_op op_catS pe_str (pe_slice sl_str (pv 4) (po_some pe_int) po_none)) (pa_cons (pe_op op_catS (pv 4) pe_str) (pa_cons (pe_slice sl_str (pv 4) po_none (po_some pe_int)) (pa_cons pe_str (pa_cons pe_str (pa_cons pe_str (pa_cons pe_str (pa_cons pe_str (pa_cons pe_str (pa_cons (pe_op op_mulStr pe_str pe_int) (pa_cons (pe_op op_mulStr pe_str pe_int) pa_nil))))))))))))))))
      (pss_one (ps_for PassesOwn.never rfl (pi_list (pe_op op_cat (pv 6) (pe_lst (pa_cons pe_str (pa_cons pe_non (pa_cons pe_int (pa_cons pe_bl (pa_cons (pe_tup (pa_cons (pv 4) pa_nil)) (pa_cons (pe_lst (pa_cons (pv 4) pa_nil)) (pa_cons pe_str (pa_cons pe_str (pa_cons pe_str (pa_cons (pe_op op_catS (pv 4) pe_str) pa_nil))))))))))))) (pg_name (i := 7) S.nd rfl (Or.inl rfl)) (pss_one (ps_if (pt_not (pt_val (pe_c0 CS hr (by omega) (by rfl) (pa_cons (pe_ck CN hr (by omega) (by rfl) (pk_cons (pv 7) pk_nil)) (pa_cons (pe_c0 CLn hr (by omega) (by rfl) (pa_cons (pv 7) pa_nil)) pa_nil))))) (pss_one (ps_ret pe_bl)) pss_nil)))))))
      (pss_one (ps_ret pe_bl)))))), ?_⟩
    try dsimp only [cxOf, Cx.nox, Cx.wish]
    walk_at "s"
    refine ⟨a, ns, 0, rfl, ha, hl, by decide, by decide, fun D L H1 e1 d1 => ?_⟩
    walk_at "s"
    rename_i t1 H2 ht1 e2 g2
    refine r_I ⟨by decide, by decide, by decide⟩ ?_
    walk_at "s"
    refine ⟨D, L, _, rfl, d1.keep e2, by decide, by decide, fun z H3 z0 z1 d3 k3 => ?_⟩
    have kt3 := Kt.of_kp k3 (d1.keep e2)
    walk_at "s"
    rename_i t2 H4 ht2 e4 g4 lo H5 hlo e5 g5
    obtain ⟨n1, n2⟩ := (d3.keep e4).fresh hlo
    refine ⟨D, L, lo, _, rfl, (d3.keep e4).keep e5, g5, n1, n2, (show 0 < 6 by decide), (show 6 ≤ 90000 by decide), fun j x H6 hx d6 k6 => ?_⟩
    have kt6 := Kt.of_kp k6 ((d3.keep e4).keep e5)
    obtain ⟨d, hd, hv⟩ : ∃ d, plainD 1 d = true ∧ Dv [] H6 x d := by
      rcases j with _ | _ | _ | _ | _ | _ | j
      · cases hx; exact ⟨.none, rfl, .non⟩
      · cases hx; exact ⟨.bool true, rfl, .bl true⟩
      · cases hx; exact ⟨.str "0", rfl, .str _⟩
      · cases hx
        refine ⟨.tuple [.int 1, .int 2], by decide +kernel, .tup (kt6 _ _ ((e4.trans e5) _ _ (kt3 _ _ g2))) rfl fun i v d a b => ?_⟩
        rcases i with _ | _ | i
        · cases a; cases b; exact .int 1
        · cases a; cases b; exact .int 2
        · simp at a
      · cases hx; exact ⟨.int z, rfl, .int z⟩
      · cases hx
        refine ⟨.tuple [.str "a", .int 3], by decide +kernel, .tup (kt6 _ _ (e5 _ _ g4)) rfl fun i v d a b => ?_⟩
        rcases i with _ | _ | i
        · cases a; cases b; exact .str _
        · cases a; cases b; exact .int 3
        · simp at a
      · simp at hx
    walk_at "s"
    refine ⟨x, d, rfl, hv, hd, fun H7 e7 => ?_⟩
    walk_at "s"
    refine if_df (by rfl) ?_
    have d7 := d6.keep e7
    clear hv hd hx k6 kt6 d6 d3 k3 kt3 d1 e1 e2 e4 e5 g2 g4 g5 e7 ha ht1 ht2 hlo n1 n2
    walk_at "s"
    refine a_rng1 (n := 8) rfl (by omega) (fun i σ' H' => Deal H' D L ∧ ∃ (x3 x4 x5 x6 x7 : Option V), σ' = [some (.ref a), some (.ref D), some (.str "abcdefghijklmnopqrstuvwxyz0123456789"), x3, x4, x5, x6, x7]) ⟨d7, _, _, _, _, _, rfl⟩ (fun i σ' H' hi p => ?_) (fun σ' H' p => ?_)
    rotate_left
    · obtain ⟨d, x3, x4, x5, x6, x7, rfl⟩ := p
      walk_at "s"
      exact q _
    obtain ⟨d, x3, x4, x5, x6, x7, rfl⟩ := p
    walk_at "s"
    refine k_m1 ?_
    walk_at "s"
    rename_i ll H1 hll e1 g1
    obtain ⟨n1, n2⟩ := d.fresh hll
    refine ⟨D, L, ll, _, rfl, d.keep e1, g1, n1, n2, (show 0 < 5 by decide), (show 5 ≤ 90000 by decide), fun j x H2 hx d2 k2 => ?_⟩
    obtain ⟨n, hn, rfl⟩ : ∃ n : Nat, n ≤ 13 ∧ x = .int (n : Int) := by
      rcases j with _ | _ | _ | _ | _ | j
      · cases hx; exact ⟨1, by decide, rfl⟩
      · cases hx; exact ⟨2, by decide, rfl⟩
      · cases hx; exact ⟨5, by decide, rfl⟩
      · cases hx; exact ⟨12, by decide, rfl⟩
      · cases hx; exact ⟨13, by decide, rfl⟩
      · simp at hx
    walk_at "s"
    refine a_lcR (n := n) rfl (by omega) (lcR (fun m acc D' H3 => Deal H3 D L ∧ ∃ cs : List Nat, acc = cs.map (fun c => V.str ⟨#[c]⟩) ∧ cs.length = m ∧ ∀ c ∈ cs, c < 128) (fun D' H3 _ e _ => ⟨d2.keep e, [], rfl, rfl, fun c h => by simp at h⟩) (fun m acc D' H3 hm hlt hD hacc p => ?_) (fun acc D' H3 _ hD hacc p => ?_))
    · obtain ⟨d3, cs, rfl, hcl, hcs⟩ := p
      obtain ⟨q1, q2⟩ := d2.fresh hD
      walk_at "s"
      refine ⟨D, L, 36, rfl, d3, by decide, by decide, fun z H4 z0 z1 d4 k4 => ?_⟩
      obtain ⟨k, rfl⟩ : ∃ k : Nat, z = (k : Int) := ⟨z.toNat, by omega⟩
      obtain ⟨hk1, hk2⟩ := letter_at k (by omega)
      refine r_ixS (z := lettersS) (c := lettersS.cps.toList.getD k 0) (by decide +kernel) hk1 ?_
      have hacc4 := k4.at hacc (by simp [q1, q2])
      refine k_lc hacc4 hlt (by omega) fun H5 h5 k5 => ⟨d4.kpm k5 q1 q2, cs ++ [lettersS.cps.toList.getD k 0], by rw [List.map_append]; rfl, by simp [hcl], fun c hc => ?_⟩
      rcases List.mem_append.mp hc with hc | hc
      · exact hcs c hc
      · rw [List.mem_singleton.mp hc]; exact hk2
    obtain ⟨d3, cs, rfl, hcl, hcs⟩ := p
    have hacc' : H3 D' = some (.lst ((cs.map fun c => (⟨#[c]⟩ : Str)).map V.str)) := by rw [List.map_map]; exact hacc
    walk_at "s"
    refine ⟨"", D', _, rfl, rfl, .inl (.of hacc'), by rw [sum_one]; show cs.length + _ * 0 ≤ _; omega, ?_⟩
    rw [join_one]
    have hw : asc 13 (SX.S cs) := .of hcs (by omega)
    generalize SX.S cs = word at hw ⊢
    clear hacc' hacc hD hcl hcs d2 k2 hx g1 e1 d
    walk_at "s"
    have w13 := hw.1
    refine r_catS (by show 1 + _ ≤ _; omega) ?_
    walk_at "s"
    refine k_m0 ⟨word, rfl, rfl, by omega, ?_⟩
    walk_at "s"
    refine ⟨word, rfl, sz_of (by omega), ?_⟩
    refine r_catS (by have := cutS_length word (some 1) none; show 1 + _ ≤ _; omega) ?_
    walk_at "s"
    refine r_catS (by show _ + 1 ≤ _; omega) ?_
    walk_at "s"
    refine ⟨word, rfl, sz_of (by omega), ?_⟩
    walk_at "s"
    refine ⟨"a", 12, rfl, rfl, by decide, by decide, by decide, by decide, by decide +kernel, ?_⟩
    walk_at "s"
    refine ⟨"a", 13, rfl, rfl, by decide, by decide, by decide, by decide, by decide +kernel, ?_⟩
    walk_at "s"
    rename_i l4 H4 hl4 e4 g4 t5 H5 ht5 e5 g5 l6 H6 hl6 e6 g6
    refine r_catS (by show _ + 1 ≤ _; omega) ?_
    walk_at "s"
    rename_i l7 H7 hl7 e7 g7
    have e47 := (e5.trans e6).trans e7
    refine r_cat (e47 _ _ g4) g7 (show 14 + 10 ≤ 100000 by decide) fun l8 H8 hl8 e8 g8 => ?_
    have e58 := (e6.trans e7).trans e8
    have all : ∀ x ∈ ([.str word, .str ("a" ++ word), .str (Txt.upper word), .str ("1" ++ cutS word (some 1) none), .str (word ++ " "), .str (cutS word none (some 12)), .str "rows", .str "row", .str "hands", .str "hand", .str "send", .str "sent", .str (oftenS "a" 12), .str (oftenS "a" 13)] : List V) ++ [.str "", .non, .int 3, .bl true, .ref t5, .ref l6, .str "x-y", .str "_x", .str "x#1", .str (word ++ "\n")], okV H8 x := by
      have one : ∀ z : Str, ascB 13 z = true → okV H8 (.str z) := fun z h => .s (asc.by h) (by decide)
      have lay : PyData.strOk word = true := hw.okS
      intro x hx
      simp only [List.cons_append, List.nil_append, List.mem_cons, List.not_mem_nil, or_false] at hx
      rcases hx with rfl | rfl | rfl | rfl | rfl | rfl | rfl | rfl | rfl | rfl | rfl | rfl | rfl | rfl | rfl | rfl | rfl | rfl | rfl | rfl | rfl | rfl | rfl | rfl
      · exact .s hw (by decide)
      · exact .s (asc.cat (a := 1) (asc.by (by decide +kernel)) hw) (by decide)
      · exact .s hw.up (by decide)
      · exact .s (asc.cat (a := 1) (asc.by (by decide +kernel)) hw.cut) (by decide)
      · exact .s (asc.cat (b := 1) hw (asc.by (by decide +kernel))) (by decide)
      · exact .s hw.cut (by decide)
      · exact one _ (by decide +kernel)
      · exact one _ (by decide +kernel)
      · exact one _ (by decide +kernel)
      · exact one _ (by decide +kernel)
      · exact one _ (by decide +kernel)
      · exact one _ (by decide +kernel)
      · exact one _ (by decide +kernel)
      · exact one _ (by decide +kernel)
      · exact one _ (by decide +kernel)
      · exact ⟨.none, .non, fun s e => (by cases e), by rfl⟩
      · exact ⟨.int 3, .int 3, fun s e => (by cases e), by rfl⟩
      · exact ⟨.bool true, .bl true, fun s e => (by cases e), by rfl⟩
      · refine ⟨.tuple [.str word], .tup (e58 _ _ g5) rfl fun i v d a b => ?_, fun s e => (by cases e), nice.mk (by rfl) (by show (PyData.strOk word && true) = true; rw [lay]; rfl)⟩
        rcases i with _ | i
        · cases a; cases b; exact .str _
        · simp at a
      · refine ⟨.list [.str word], .lst ((e7.trans e8) _ _ g6) (by simp) rfl fun i v d a b => ?_, fun s e => (by cases e), nice.mk (by rfl) (by show (PyData.strOk word && true) = true; rw [lay]; rfl)⟩
        rcases i with _ | i
        · cases a; cases b; exact .str _
        · simp at a
      · exact one _ (by decide +kernel)
      · exact one _ (by decide +kernel)
      · exact one _ (by decide +kernel)
      · exact .s (asc.cat (b := 1) hw (asc.by (by decide +kernel))) (by decide)
    have d8 := ((d3.keep e4).keep e47).keep e8
    refine k_forL (.of g8) (fun j σ' H' => Ex H8 H' ∧ ∃ (x5 x7 : Option V), σ' = [some (.ref a), some (.ref D), some (.str "abcdefghijklmnopqrstuvwxyz0123456789"), some (.int (i : Int)), some (.str word), x5, some (.ref l4), x7]) ⟨fun _ _ h => h, _, _, rfl⟩ (fun j σ' H' _ p => .of (p.1 _ _ g8)) (fun j x σ' H' hx p => ?_) (fun σ' H' p => ?_)
    · obtain ⟨e9, y5, y7, rfl⟩ := p
      obtain ⟨dx, hdx, hsh, hni⟩ := (all x (List.mem_of_getElem? hx)).ex e9
      walk_at "s"
      refine k_callK rfl ?_
      refine ⟨[], x, dx, rfl, hdx, hsh, fun H10 e10 => ?_⟩
      walk_at "s"
      refine ⟨[], x, dx, rfl, hdx.ex e10, hsh, hni, fun H11 e11 => ?_⟩
      walk_at "s"
      refine ⟨[], _, _, .bool (isNameD dx), .bool (isNameD dx), rfl, .bl _, .bl _, rfl, fun H12 e12 => ?_⟩
      rw [smD_refl 1 (.bool (isNameD dx)) rfl]
      walk_at "s"
      refine if_df (by rfl) ?_
      walk_at "s"
      exact ⟨((e9.trans e10).trans e11).trans e12, _, _, rfl⟩
    · obtain ⟨e9, y5, y7, rfl⟩ := p
      walk_at "s"
      exact ⟨d8.keep e9, _, _, _, _, _, rfl⟩
end
end BkL
end
section
namespace BkL
open PySem PySem.Spec PyProof.Rows L2 BkG
theorem all_mk {l : PySem.W.OpenLaw} {w : World} {K : PySem.W.Frag} {h : Heap} {mg : Str → Option Value} {fa : Addr} (X : K.In h) (G : h.Ns mainGlobals mg) (hfa : mg "law" = some (.ref fa))
  {od0 an0 : Option Addr} {sl0 : Array (Option Value)} {f0 : Addr} {oc0 kV0 dc0 pm0 cd0 ct0 : Value}
  {od1 an1 : Option Addr} {sl1 : Array (Option Value)} {f1 : Addr} {oc1 kV1 dc1 pm1 cd1 ct1 : Value}
  {od2 an2 : Option Addr} {sl2 : Array (Option Value)} {f2 : Addr} {oc2 kV2 dc2 pm2 cd2 ct2 : Value}
  {od3 an3 : Option Addr} {sl3 : Array (Option Value)} {f3 : Addr} {oc3 kV3 dc3 pm3 cd3 ct3 : Value}
  {od4 an4 : Option Addr} {sl4 : Array (Option Value)} {f4 : Addr} {oc4 kV4 dc4 pm4 cd4 ct4 : Value}
  {od5 an5 : Option Addr} {sl5 : Array (Option Value)} {f5 : Addr} {oc5 kV5 dc5 pm5 cd5 ct5 : Value}
  {od6 an6 : Option Addr} {sl6 : Array (Option Value)} {f6 : Addr} {oc6 kV6 dc6 pm6 cd6 ct6 : Value}
  {od7 an7 : Option Addr} {sl7 : Array (Option Value)} {f7 : Addr} {oc7 kV7 dc7 pm7 cd7 ct7 : Value}
  {odL anL : Option Addr} {slL : Array (Option Value)} {fL : Addr} {cdL ocL kVL dcL pmL ctL : Value}
  {C_0 B_0 fI_0 cda_0 cc_0 eN_0 : Addr} {enm_0 eq_0 : Str} {ebs_0 esub_0 : List Value} {esn_0 : List Str} {eab_0 : Bool} {ecol_0 : Option Bool} {edd_0 : Option Addr} {em0_0 em1_0 em2_0 em3_0 em5_0 : Option Value} {iod_0 ian_0 ikd_0 ild_0 : Option Addr} {isl_0 iks_0 ils_0 : Array (Option Value)} {ioc_0 idc_0 ipm_0 ict_0 ikc_0 ilc_0 : Value} {ivs_0 : Array Value} {ifile_0 : Str} {itf_0 : Tok}
  {C_1 B_1 fI_1 cda_1 cc_1 eN_1 : Addr} {enm_1 eq_1 : Str} {ebs_1 esub_1 : List Value} {esn_1 : List Str} {eab_1 : Bool} {ecol_1 : Option Bool} {edd_1 : Option Addr} {em0_1 em1_1 em2_1 em3_1 em5_1 : Option Value} {iod_1 ian_1 ikd_1 ild_1 : Option Addr} {isl_1 iks_1 ils_1 : Array (Option Value)} {ioc_1 idc_1 ipm_1 ict_1 ikc_1 ilc_1 : Value} {ivs_1 : Array Value} {ifile_1 : Str} {itf_1 : Tok}
  {C_2 B_2 fI_2 cda_2 cc_2 eN_2 : Addr} {enm_2 eq_2 : Str} {ebs_2 esub_2 : List Value} {esn_2 : List Str} {eab_2 : Bool} {ecol_2 : Option Bool} {edd_2 : Option Addr} {em0_2 em1_2 em2_2 em3_2 em5_2 : Option Value} {iod_2 ian_2 ikd_2 ild_2 : Option Addr} {isl_2 iks_2 ils_2 : Array (Option Value)} {ioc_2 idc_2 ipm_2 ict_2 ikc_2 ilc_2 : Value} {ivs_2 : Array Value} {ifile_2 : Str} {itf_2 : Tok}
  {C_3 B_3 fI_3 cda_3 cc_3 eN_3 : Addr} {enm_3 eq_3 : Str} {ebs_3 esub_3 : List Value} {esn_3 : List Str} {eab_3 : Bool} {ecol_3 : Option Bool} {edd_3 : Option Addr} {em0_3 em1_3 em2_3 em3_3 em5_3 : Option Value} {iod_3 ian_3 ikd_3 ild_3 : Option Addr} {isl_3 iks_3 ils_3 : Array (Option Value)} {ioc_3 idc_3 ipm_3 ict_3 ikc_3 ilc_3 : Value} {ivs_3 : Array Value} {ifile_3 : Str} {itf_3 : Tok}
  {C_4 B_4 fI_4 cda_4 cc_4 eN_4 : Addr} {enm_4 eq_4 : Str} {ebs_4 esub_4 : List Value} {esn_4 : List Str} {eab_4 : Bool} {ecol_4 : Option Bool} {edd_4 : Option Addr} {em0_4 em1_4 em2_4 em3_4 em5_4 : Option Value} {iod_4 ian_4 ikd_4 ild_4 : Option Addr} {isl_4 iks_4 ils_4 : Array (Option Value)} {ioc_4 idc_4 ipm_4 ict_4 ikc_4 ilc_4 : Value} {ivs_4 : Array Value} {ifile_4 : Str} {itf_4 : Tok}
  {C_5 B_5 fI_5 cda_5 cc_5 eN_5 : Addr} {enm_5 eq_5 : Str} {ebs_5 esub_5 : List Value} {esn_5 : List Str} {eab_5 : Bool} {ecol_5 : Option Bool} {edd_5 : Option Addr} {em0_5 em1_5 em2_5 em3_5 em5_5 : Option Value} {iod_5 ian_5 ikd_5 ild_5 : Option Addr} {isl_5 iks_5 ils_5 : Array (Option Value)} {ioc_5 idc_5 ipm_5 ict_5 ikc_5 ilc_5 : Value} {ivs_5 : Array Value} {ifile_5 : Str} {itf_5 : Tok}
  {C_6 B_6 fI_6 cda_6 cc_6 eN_6 : Addr} {enm_6 eq_6 : Str} {ebs_6 esub_6 : List Value} {esn_6 : List Str} {eab_6 : Bool} {ecol_6 : Option Bool} {edd_6 : Option Addr} {em0_6 em1_6 em2_6 em3_6 em5_6 : Option Value} {iod_6 ian_6 ikd_6 ild_6 : Option Addr} {isl_6 iks_6 ils_6 : Array (Option Value)} {ioc_6 idc_6 ipm_6 ict_6 ikc_6 ilc_6 : Value} {ivs_6 : Array Value} {ifile_6 : Str} {itf_6 : Tok}
  {C_7 B_7 fI_7 cda_7 cc_7 eN_7 : Addr} {enm_7 eq_7 : Str} {ebs_7 esub_7 : List Value} {esn_7 : List Str} {eab_7 : Bool} {ecol_7 : Option Bool} {edd_7 : Option Addr} {em0_7 em1_7 em2_7 em3_7 em5_7 : Option Value} {iod_7 ian_7 ikd_7 ild_7 : Option Addr} {isl_7 iks_7 ils_7 : Array (Option Value)} {ioc_7 idc_7 ipm_7 ict_7 ikc_7 ilc_7 : Value} {ivs_7 : Array Value} {ifile_7 : Str} {itf_7 : Tok}
  {C_8 B_8 fI_8 cda_8 cc_8 eN_8 : Addr} {enm_8 eq_8 : Str} {ebs_8 esub_8 : List Value} {esn_8 : List Str} {eab_8 : Bool} {ecol_8 : Option Bool} {edd_8 : Option Addr} {em0_8 em1_8 em2_8 em3_8 em5_8 : Option Value} {iod_8 ian_8 ikd_8 ild_8 : Option Addr} {isl_8 iks_8 ils_8 : Array (Option Value)} {ioc_8 idc_8 ipm_8 ict_8 ikc_8 ilc_8 : Value} {ivs_8 : Array Value} {ifile_8 : Str} {itf_8 : Tok}
  {t0 : Tok}
  {t1 : Tok}
  {t2 : Tok}
  {w0_0 w0_1 w0_2 w0_3 w0_4 w0_5 w0_6 w0_7 w0_8 w0_9 w0_10 w0_11 w0_12 w0_13 w0_14 w0_15 w0_16 w0_17 w0_18 w0_19 w0_20 w0_21 w0_22 w0_23 w0_24 w0_25 w0_26 w0_27 w0_28 w0_29 w0_30 w0_31 w0_32 w0_33 w0_34 w0_35 w0_36 w0_37 w0_38 w0_39 w0_40 w0_41 w0_42 w0_43 w0_44 w0_45 w0_46 w0_47 w0_48 w0_49 w0_50 w0_51 w0_52 w0_53 w0_54 w0_55 w0_56 w0_57 w0_58 w0_59 w0_60 w0_61 : Tok} {pa0 : Addr} {po0 : Option Addr} {pn0 : Nat} {ps0 : Array (Option Value)}
  {C_9 CB_ : Addr}
  (a0 : PySem.W.nsIn K mainGlobals "_law_draw" = some (some (.ref f0)))
  (l0 : K.lookup f0 = some ⟨oc0, od0, .func (PySem.W.fnOf "_law_draw" "_law_draw" (defArgs s_draw) (defBody s_draw) (defScope s_draw) .none kV0 dc0 pm0 an0 cd0 ct0), sl0⟩)
  (c0 : PySem.W.codeIn K cd0 "_law_draw" = true)
  (k0 : PySem.W.keepIn K (.ref f0) = true)
  (a1 : PySem.W.nsIn K mainGlobals "_law_any" = some (some (.ref f1)))
  (l1 : K.lookup f1 = some ⟨oc1, od1, .func (PySem.W.fnOf "_law_any" "_law_any" (defArgs s_any) (defBody s_any) (defScope s_any) .none kV1 dc1 pm1 an1 cd1 ct1), sl1⟩)
  (c1 : PySem.W.codeIn K cd1 "_law_any" = true)
  (k1 : PySem.W.keepIn K (.ref f1) = true)
  (a2 : PySem.W.nsIn K mainGlobals "_law_of" = some (some (.ref f2)))
  (l2 : K.lookup f2 = some ⟨oc2, od2, .func (PySem.W.fnOf "_law_of" "_law_of" (defArgs s_of) (defBody s_of) (defScope s_of) .none kV2 dc2 pm2 an2 cd2 ct2), sl2⟩)
  (c2 : PySem.W.codeIn K cd2 "_law_of" = true)
  (k2 : PySem.W.keepIn K (.ref f2) = true)
  (a3 : PySem.W.nsIn K mainGlobals "_law_same" = some (some (.ref f3)))
  (l3 : K.lookup f3 = some ⟨oc3, od3, .func (PySem.W.fnOf "_law_same" "_law_same" (defArgs s_sameH) (defBody s_sameH) (defScope s_sameH) .none kV3 dc3 pm3 an3 cd3 ct3), sl3⟩)
  (c3 : PySem.W.codeIn K cd3 "_law_same" = true)
  (k3 : PySem.W.keepIn K (.ref f3) = true)
  (a4 : PySem.W.nsIn K mainGlobals "_law_raised" = some (some (.ref f4)))
  (l4 : K.lookup f4 = some ⟨oc4, od4, .func (PySem.W.fnOf "_law_raised" "_law_raised" (defArgs s_raised) (defBody s_raised) (defScope s_raised) .none kV4 dc4 pm4 an4 cd4 ct4), sl4⟩)
  (c4 : PySem.W.codeIn K cd4 "_law_raised" = true)
  (k4 : PySem.W.keepIn K (.ref f4) = true)
  (a5 : PySem.W.nsIn K mainGlobals "_law_kinds" = some (some (.ref f5)))
  (l5 : K.lookup f5 = some ⟨oc5, od5, .func (PySem.W.fnOf "_law_kinds" "_law_kinds" (defArgs s_kinds) (defBody s_kinds) (defScope s_kinds) .none kV5 dc5 pm5 an5 cd5 ct5), sl5⟩)
  (c5 : PySem.W.codeIn K cd5 "_law_kinds" = true)
  (k5 : PySem.W.keepIn K (.ref f5) = true)
  (a6 : PySem.W.nsIn K mainGlobals "is_name" = some (some (.ref f6)))
  (l6 : K.lookup f6 = some ⟨oc6, od6, .func (PySem.W.fnOf "is_name" "is_name" (defArgs s_isname) (defBody s_isname) (defScope s_isname) .none kV6 dc6 pm6 an6 cd6 ct6), sl6⟩)
  (c6 : PySem.W.codeIn K cd6 "is_name" = true)
  (k6 : PySem.W.keepIn K (.ref f6) = true)
  (a7 : PySem.W.nsIn K mainGlobals "_law_is_name" = some (some (.ref f7)))
  (l7 : K.lookup f7 = some ⟨oc7, od7, .func (PySem.W.fnOf "_law_is_name" "_law_is_name" (defArgs s_lisname) (defBody s_lisname) (defScope s_lisname) .none kV7 dc7 pm7 an7 cd7 ct7), sl7⟩)
  (c7 : PySem.W.codeIn K cd7 "_law_is_name" = true)
  (k7 : PySem.W.keepIn K (.ref f7) = true)
  (aL : PySem.W.nsIn K mainGlobals "law" = some (some (.ref fL)))
  (lL : K.lookup fL = some ⟨ocL, odL, .func (PySem.W.fnOf "law" "law" (defArgs s_law) (defBody s_law) (defScope s_law) .none kVL dcL pmL anL cdL ctL), slL⟩)
  (cL_ : PySem.W.codeIn K cdL "law" = true)
  (kL : PySem.W.keepIn K (.ref fL) = true)
  (noSup : PySem.W.nsIn K mainGlobals "super" = some none)
  (opAny : PySem.W.nsIn K cStatics "thirdparty.any" = some none)
  (topSup : (l.prog.main.scope.names.lookup ("super" : Str)).isSome = false)
  (eC_0 : PySem.W.nsIn K mainGlobals "InvalidWord" = some (some (.ref C_0)))
  (ex_0 : K.lookup C_0 = some (excClassObj enm_0 eq_0 C_0 eN_0 ebs_0 [.ref B_0, .type "ValueError", .type "Exception", .type "BaseException", .type "object"] true esn_0 esub_0 eab_0 ecol_0 edd_0 em0_0 em1_0 em2_0 em3_0 em5_0 "ValueError.__new__"))
  (esa_0 : PySem.W.findIn K (.ref C_0) "__setattr__" = some (some (.builtin "object.__setattr__")))
  (ega_0 : PySem.W.findIn K (.ref C_0) "__getattribute__" = some (some (.builtin "BaseException.__getattribute__")))
  (egg_0 : PySem.W.findIn K (.ref C_0) "__getattr__" = some none)
  (eno_0 : PySem.W.findIn K (.ref C_0) "at" = some none)
  (ei_0 : PySem.W.findIn K (.ref C_0) "__init__" = some (some (.ref fI_0)))
  (et_0 : PySem.W.typeIn K (.ref fI_0) = some (.type "function"))
  (ek_0 : PySem.W.keepIn K (.ref C_0) = true)
  (eb_0 : PySem.W.subIn K (.ref C_0) (.type "BaseException") = some true)
  (ev_0 : PySem.W.subIn K (.ref C_0) (.type "ValueError") = some true)
  (ety_0 : PySem.W.typeIn K (.ref C_0) = some (.type "type"))
  (eh_0 : PySem.W.hasDictIn K C_0 = true)
  (eis_0 : PySem.W.isClsIn K C_0 = true)
  (ess_0 : PySem.W.subIn K (.ref C_0) (.ref C_0) = some true)
  (emr_0 : PySem.W.mroIn K C_0 (.ref C_0) = some true)
  (esu_0 : PySem.W.ks_superIn K C_0 C_0 "__init__" = some (some (.builtin "ValueError.__init__")))
  (il_0 : K.lookup fI_0 = some ⟨ioc_0, iod_0, .func (PySem.W.ksFn "__init__" "InvalidWord.__init__" (PySem.BkErr.iA ⟨15, 17, 15, 21⟩ ⟨15, 23, 15, 25⟩) (PySem.BkErr.iB ⟨16, 8, 16, 13⟩ ⟨16, 8, 16, 15⟩ ⟨16, 8, 16, 24⟩ ⟨16, 25, 16, 27⟩ ⟨16, 8, 16, 28⟩ ⟨16, 8, 16, 28⟩ ⟨17, 8, 17, 12⟩ ⟨17, 8, 17, 15⟩ ⟨17, 18, 17, 20⟩ ⟨17, 8, 17, 20⟩) PySem.BkErr.iS .none .none idc_0 ipm_0 ian_0 (.ref cda_0) ict_0 cc_0), isl_0⟩)
  (ic_0 : PySem.W.codeIn K (.ref cda_0) "InvalidWord.__init__" = true)
  (icl_0 : K.lookup cc_0 = some ⟨ilc_0, ild_0, .cell (some (.ref C_0)), ils_0⟩)
  (ico_0 : K.lookup cda_0 = some ⟨ikc_0, ikd_0, .fields ivs_0, iks_0⟩)
  (iv_0 : ivs_0[2]? = some (.str ifile_0 itf_0))
  (iff_0 : ((l.prog.main.file : Str) == ifile_0) = true)
  (eC_1 : PySem.W.nsIn K mainGlobals "InvalidProgram" = some (some (.ref C_1)))
  (ex_1 : K.lookup C_1 = some (excClassObj enm_1 eq_1 C_1 eN_1 ebs_1 [.ref B_1, .type "ValueError", .type "Exception", .type "BaseException", .type "object"] true esn_1 esub_1 eab_1 ecol_1 edd_1 em0_1 em1_1 em2_1 em3_1 em5_1 "ValueError.__new__"))
  (esa_1 : PySem.W.findIn K (.ref C_1) "__setattr__" = some (some (.builtin "object.__setattr__")))
  (ega_1 : PySem.W.findIn K (.ref C_1) "__getattribute__" = some (some (.builtin "BaseException.__getattribute__")))
  (egg_1 : PySem.W.findIn K (.ref C_1) "__getattr__" = some none)
  (eno_1 : PySem.W.findIn K (.ref C_1) "at" = some none)
  (ei_1 : PySem.W.findIn K (.ref C_1) "__init__" = some (some (.ref fI_1)))
  (et_1 : PySem.W.typeIn K (.ref fI_1) = some (.type "function"))
  (ek_1 : PySem.W.keepIn K (.ref C_1) = true)
  (eb_1 : PySem.W.subIn K (.ref C_1) (.type "BaseException") = some true)
  (ev_1 : PySem.W.subIn K (.ref C_1) (.type "ValueError") = some true)
  (ety_1 : PySem.W.typeIn K (.ref C_1) = some (.type "type"))
  (eh_1 : PySem.W.hasDictIn K C_1 = true)
  (eis_1 : PySem.W.isClsIn K C_1 = true)
  (ess_1 : PySem.W.subIn K (.ref C_1) (.ref C_1) = some true)
  (emr_1 : PySem.W.mroIn K C_1 (.ref C_1) = some true)
  (esu_1 : PySem.W.ks_superIn K C_1 C_1 "__init__" = some (some (.builtin "ValueError.__init__")))
  (il_1 : K.lookup fI_1 = some ⟨ioc_1, iod_1, .func (PySem.W.ksFn "__init__" "InvalidProgram.__init__" (PySem.BkErr.iA ⟨20, 17, 20, 21⟩ ⟨20, 23, 20, 25⟩) (PySem.BkErr.iB ⟨21, 8, 21, 13⟩ ⟨21, 8, 21, 15⟩ ⟨21, 8, 21, 24⟩ ⟨21, 25, 21, 27⟩ ⟨21, 8, 21, 28⟩ ⟨21, 8, 21, 28⟩ ⟨22, 8, 22, 12⟩ ⟨22, 8, 22, 15⟩ ⟨22, 18, 22, 20⟩ ⟨22, 8, 22, 20⟩) PySem.BkErr.iS .none .none idc_1 ipm_1 ian_1 (.ref cda_1) ict_1 cc_1), isl_1⟩)
  (ic_1 : PySem.W.codeIn K (.ref cda_1) "InvalidProgram.__init__" = true)
  (icl_1 : K.lookup cc_1 = some ⟨ilc_1, ild_1, .cell (some (.ref C_1)), ils_1⟩)
  (ico_1 : K.lookup cda_1 = some ⟨ikc_1, ikd_1, .fields ivs_1, iks_1⟩)
  (iv_1 : ivs_1[2]? = some (.str ifile_1 itf_1))
  (iff_1 : ((l.prog.main.file : Str) == ifile_1) = true)
  (eC_2 : PySem.W.nsIn K mainGlobals "InvalidModule" = some (some (.ref C_2)))
  (ex_2 : K.lookup C_2 = some (excClassObj enm_2 eq_2 C_2 eN_2 ebs_2 [.ref B_2, .type "ValueError", .type "Exception", .type "BaseException", .type "object"] true esn_2 esub_2 eab_2 ecol_2 edd_2 em0_2 em1_2 em2_2 em3_2 em5_2 "ValueError.__new__"))
  (esa_2 : PySem.W.findIn K (.ref C_2) "__setattr__" = some (some (.builtin "object.__setattr__")))
  (ega_2 : PySem.W.findIn K (.ref C_2) "__getattribute__" = some (some (.builtin "BaseException.__getattribute__")))
  (egg_2 : PySem.W.findIn K (.ref C_2) "__getattr__" = some none)
  (eno_2 : PySem.W.findIn K (.ref C_2) "at" = some none)
  (ei_2 : PySem.W.findIn K (.ref C_2) "__init__" = some (some (.ref fI_2)))
  (et_2 : PySem.W.typeIn K (.ref fI_2) = some (.type "function"))
  (ek_2 : PySem.W.keepIn K (.ref C_2) = true)
  (eb_2 : PySem.W.subIn K (.ref C_2) (.type "BaseException") = some true)
  (ev_2 : PySem.W.subIn K (.ref C_2) (.type "ValueError") = some true)
  (ety_2 : PySem.W.typeIn K (.ref C_2) = some (.type "type"))
  (eh_2 : PySem.W.hasDictIn K C_2 = true)
  (eis_2 : PySem.W.isClsIn K C_2 = true)
  (ess_2 : PySem.W.subIn K (.ref C_2) (.ref C_2) = some true)
  (emr_2 : PySem.W.mroIn K C_2 (.ref C_2) = some true)
  (esu_2 : PySem.W.ks_superIn K C_2 C_2 "__init__" = some (some (.builtin "ValueError.__init__")))
  (il_2 : K.lookup fI_2 = some ⟨ioc_2, iod_2, .func (PySem.W.ksFn "__init__" "InvalidModule.__init__" (PySem.BkErr.iA ⟨25, 17, 25, 21⟩ ⟨25, 23, 25, 25⟩) (PySem.BkErr.iB ⟨26, 8, 26, 13⟩ ⟨26, 8, 26, 15⟩ ⟨26, 8, 26, 24⟩ ⟨26, 25, 26, 27⟩ ⟨26, 8, 26, 28⟩ ⟨26, 8, 26, 28⟩ ⟨27, 8, 27, 12⟩ ⟨27, 8, 27, 15⟩ ⟨27, 18, 27, 20⟩ ⟨27, 8, 27, 20⟩) PySem.BkErr.iS .none .none idc_2 ipm_2 ian_2 (.ref cda_2) ict_2 cc_2), isl_2⟩)
  (ic_2 : PySem.W.codeIn K (.ref cda_2) "InvalidModule.__init__" = true)
  (icl_2 : K.lookup cc_2 = some ⟨ilc_2, ild_2, .cell (some (.ref C_2)), ils_2⟩)
  (ico_2 : K.lookup cda_2 = some ⟨ikc_2, ikd_2, .fields ivs_2, iks_2⟩)
  (iv_2 : ivs_2[2]? = some (.str ifile_2 itf_2))
  (iff_2 : ((l.prog.main.file : Str) == ifile_2) = true)
  (eC_3 : PySem.W.nsIn K mainGlobals "InvalidCode" = some (some (.ref C_3)))
  (ex_3 : K.lookup C_3 = some (excClassObj enm_3 eq_3 C_3 eN_3 ebs_3 [.ref B_3, .type "ValueError", .type "Exception", .type "BaseException", .type "object"] true esn_3 esub_3 eab_3 ecol_3 edd_3 em0_3 em1_3 em2_3 em3_3 em5_3 "ValueError.__new__"))
  (esa_3 : PySem.W.findIn K (.ref C_3) "__setattr__" = some (some (.builtin "object.__setattr__")))
  (ega_3 : PySem.W.findIn K (.ref C_3) "__getattribute__" = some (some (.builtin "BaseException.__getattribute__")))
  (egg_3 : PySem.W.findIn K (.ref C_3) "__getattr__" = some none)
  (eno_3 : PySem.W.findIn K (.ref C_3) "at" = some none)
  (ei_3 : PySem.W.findIn K (.ref C_3) "__init__" = some (some (.ref fI_3)))
  (et_3 : PySem.W.typeIn K (.ref fI_3) = some (.type "function"))
  (ek_3 : PySem.W.keepIn K (.ref C_3) = true)
  (eb_3 : PySem.W.subIn K (.ref C_3) (.type "BaseException") = some true)
  (ev_3 : PySem.W.subIn K (.ref C_3) (.type "ValueError") = some true)
  (ety_3 : PySem.W.typeIn K (.ref C_3) = some (.type "type"))
  (eh_3 : PySem.W.hasDictIn K C_3 = true)
  (eis_3 : PySem.W.isClsIn K C_3 = true)
  (ess_3 : PySem.W.subIn K (.ref C_3) (.ref C_3) = some true)
  (emr_3 : PySem.W.mroIn K C_3 (.ref C_3) = some true)
  (esu_3 : PySem.W.ks_superIn K C_3 C_3 "__init__" = some (some (.builtin "ValueError.__init__")))
  (il_3 : K.lookup fI_3 = some ⟨ioc_3, iod_3, .func (PySem.W.ksFn "__init__" "InvalidCode.__init__" (PySem.BkErr.iA ⟨30, 17, 30, 21⟩ ⟨30, 23, 30, 25⟩) (PySem.BkErr.iB ⟨31, 8, 31, 13⟩ ⟨31, 8, 31, 15⟩ ⟨31, 8, 31, 24⟩ ⟨31, 25, 31, 27⟩ ⟨31, 8, 31, 28⟩ ⟨31, 8, 31, 28⟩ ⟨32, 8, 32, 12⟩ ⟨32, 8, 32, 15⟩ ⟨32, 18, 32, 20⟩ ⟨32, 8, 32, 20⟩) PySem.BkErr.iS .none .none idc_3 ipm_3 ian_3 (.ref cda_3) ict_3 cc_3), isl_3⟩)
  (ic_3 : PySem.W.codeIn K (.ref cda_3) "InvalidCode.__init__" = true)
  (icl_3 : K.lookup cc_3 = some ⟨ilc_3, ild_3, .cell (some (.ref C_3)), ils_3⟩)
  (ico_3 : K.lookup cda_3 = some ⟨ikc_3, ikd_3, .fields ivs_3, iks_3⟩)
  (iv_3 : ivs_3[2]? = some (.str ifile_3 itf_3))
  (iff_3 : ((l.prog.main.file : Str) == ifile_3) = true)
  (eC_4 : PySem.W.nsIn K mainGlobals "InvalidValue" = some (some (.ref C_4)))
  (ex_4 : K.lookup C_4 = some (excClassObj enm_4 eq_4 C_4 eN_4 ebs_4 [.ref B_4, .type "ValueError", .type "Exception", .type "BaseException", .type "object"] true esn_4 esub_4 eab_4 ecol_4 edd_4 em0_4 em1_4 em2_4 em3_4 em5_4 "ValueError.__new__"))
  (esa_4 : PySem.W.findIn K (.ref C_4) "__setattr__" = some (some (.builtin "object.__setattr__")))
  (ega_4 : PySem.W.findIn K (.ref C_4) "__getattribute__" = some (some (.builtin "BaseException.__getattribute__")))
  (egg_4 : PySem.W.findIn K (.ref C_4) "__getattr__" = some none)
  (eno_4 : PySem.W.findIn K (.ref C_4) "at" = some none)
  (ei_4 : PySem.W.findIn K (.ref C_4) "__init__" = some (some (.ref fI_4)))
  (et_4 : PySem.W.typeIn K (.ref fI_4) = some (.type "function"))
  (ek_4 : PySem.W.keepIn K (.ref C_4) = true)
  (eb_4 : PySem.W.subIn K (.ref C_4) (.type "BaseException") = some true)
  (ev_4 : PySem.W.subIn K (.ref C_4) (.type "ValueError") = some true)
  (ety_4 : PySem.W.typeIn K (.ref C_4) = some (.type "type"))
  (eh_4 : PySem.W.hasDictIn K C_4 = true)
  (eis_4 : PySem.W.isClsIn K C_4 = true)
  (ess_4 : PySem.W.subIn K (.ref C_4) (.ref C_4) = some true)
  (emr_4 : PySem.W.mroIn K C_4 (.ref C_4) = some true)
  (esu_4 : PySem.W.ks_superIn K C_4 C_4 "__init__" = some (some (.builtin "ValueError.__init__")))
  (il_4 : K.lookup fI_4 = some ⟨ioc_4, iod_4, .func (PySem.W.ksFn "__init__" "InvalidValue.__init__" (PySem.BkErr.iA ⟨35, 17, 35, 21⟩ ⟨35, 23, 35, 25⟩) (PySem.BkErr.iB ⟨36, 8, 36, 13⟩ ⟨36, 8, 36, 15⟩ ⟨36, 8, 36, 24⟩ ⟨36, 25, 36, 27⟩ ⟨36, 8, 36, 28⟩ ⟨36, 8, 36, 28⟩ ⟨37, 8, 37, 12⟩ ⟨37, 8, 37, 15⟩ ⟨37, 18, 37, 20⟩ ⟨37, 8, 37, 20⟩) PySem.BkErr.iS .none .none idc_4 ipm_4 ian_4 (.ref cda_4) ict_4 cc_4), isl_4⟩)
  (ic_4 : PySem.W.codeIn K (.ref cda_4) "InvalidValue.__init__" = true)
  (icl_4 : K.lookup cc_4 = some ⟨ilc_4, ild_4, .cell (some (.ref C_4)), ils_4⟩)
  (ico_4 : K.lookup cda_4 = some ⟨ikc_4, ikd_4, .fields ivs_4, iks_4⟩)
  (iv_4 : ivs_4[2]? = some (.str ifile_4 itf_4))
  (iff_4 : ((l.prog.main.file : Str) == ifile_4) = true)
  (eC_5 : PySem.W.nsIn K mainGlobals "InvalidMoment" = some (some (.ref C_5)))
  (ex_5 : K.lookup C_5 = some (excClassObj enm_5 eq_5 C_5 eN_5 ebs_5 [.ref B_5, .type "ValueError", .type "Exception", .type "BaseException", .type "object"] true esn_5 esub_5 eab_5 ecol_5 edd_5 em0_5 em1_5 em2_5 em3_5 em5_5 "ValueError.__new__"))
  (esa_5 : PySem.W.findIn K (.ref C_5) "__setattr__" = some (some (.builtin "object.__setattr__")))
  (ega_5 : PySem.W.findIn K (.ref C_5) "__getattribute__" = some (some (.builtin "BaseException.__getattribute__")))
  (egg_5 : PySem.W.findIn K (.ref C_5) "__getattr__" = some none)
  (eno_5 : PySem.W.findIn K (.ref C_5) "at" = some none)
  (ei_5 : PySem.W.findIn K (.ref C_5) "__init__" = some (some (.ref fI_5)))
  (et_5 : PySem.W.typeIn K (.ref fI_5) = some (.type "function"))
  (ek_5 : PySem.W.keepIn K (.ref C_5) = true)
  (eb_5 : PySem.W.subIn K (.ref C_5) (.type "BaseException") = some true)
  (ev_5 : PySem.W.subIn K (.ref C_5) (.type "ValueError") = some true)
  (ety_5 : PySem.W.typeIn K (.ref C_5) = some (.type "type"))
  (eh_5 : PySem.W.hasDictIn K C_5 = true)
  (eis_5 : PySem.W.isClsIn K C_5 = true)
  (ess_5 : PySem.W.subIn K (.ref C_5) (.ref C_5) = some true)
  (emr_5 : PySem.W.mroIn K C_5 (.ref C_5) = some true)
  (esu_5 : PySem.W.ks_superIn K C_5 C_5 "__init__" = some (some (.builtin "ValueError.__init__")))
  (il_5 : K.lookup fI_5 = some ⟨ioc_5, iod_5, .func (PySem.W.ksFn "__init__" "InvalidMoment.__init__" (PySem.BkErr.iA ⟨40, 17, 40, 21⟩ ⟨40, 23, 40, 25⟩) (PySem.BkErr.iB ⟨41, 8, 41, 13⟩ ⟨41, 8, 41, 15⟩ ⟨41, 8, 41, 24⟩ ⟨41, 25, 41, 27⟩ ⟨41, 8, 41, 28⟩ ⟨41, 8, 41, 28⟩ ⟨42, 8, 42, 12⟩ ⟨42, 8, 42, 15⟩ ⟨42, 18, 42, 20⟩ ⟨42, 8, 42, 20⟩) PySem.BkErr.iS .none .none idc_5 ipm_5 ian_5 (.ref cda_5) ict_5 cc_5), isl_5⟩)
  (ic_5 : PySem.W.codeIn K (.ref cda_5) "InvalidMoment.__init__" = true)
  (icl_5 : K.lookup cc_5 = some ⟨ilc_5, ild_5, .cell (some (.ref C_5)), ils_5⟩)
  (ico_5 : K.lookup cda_5 = some ⟨ikc_5, ikd_5, .fields ivs_5, iks_5⟩)
  (iv_5 : ivs_5[2]? = some (.str ifile_5 itf_5))
  (iff_5 : ((l.prog.main.file : Str) == ifile_5) = true)
  (eC_6 : PySem.W.nsIn K mainGlobals "InvalidQuestion" = some (some (.ref C_6)))
  (ex_6 : K.lookup C_6 = some (excClassObj enm_6 eq_6 C_6 eN_6 ebs_6 [.ref B_6, .type "ValueError", .type "Exception", .type "BaseException", .type "object"] true esn_6 esub_6 eab_6 ecol_6 edd_6 em0_6 em1_6 em2_6 em3_6 em5_6 "ValueError.__new__"))
  (esa_6 : PySem.W.findIn K (.ref C_6) "__setattr__" = some (some (.builtin "object.__setattr__")))
  (ega_6 : PySem.W.findIn K (.ref C_6) "__getattribute__" = some (some (.builtin "BaseException.__getattribute__")))
  (egg_6 : PySem.W.findIn K (.ref C_6) "__getattr__" = some none)
  (eno_6 : PySem.W.findIn K (.ref C_6) "at" = some none)
  (ei_6 : PySem.W.findIn K (.ref C_6) "__init__" = some (some (.ref fI_6)))
  (et_6 : PySem.W.typeIn K (.ref fI_6) = some (.type "function"))
  (ek_6 : PySem.W.keepIn K (.ref C_6) = true)
  (eb_6 : PySem.W.subIn K (.ref C_6) (.type "BaseException") = some true)
  (ev_6 : PySem.W.subIn K (.ref C_6) (.type "ValueError") = some true)
  (ety_6 : PySem.W.typeIn K (.ref C_6) = some (.type "type"))
  (eh_6 : PySem.W.hasDictIn K C_6 = true)
  (eis_6 : PySem.W.isClsIn K C_6 = true)
  (ess_6 : PySem.W.subIn K (.ref C_6) (.ref C_6) = some true)
  (emr_6 : PySem.W.mroIn K C_6 (.ref C_6) = some true)
  (esu_6 : PySem.W.ks_superIn K C_6 C_6 "__init__" = some (some (.builtin "ValueError.__init__")))
  (il_6 : K.lookup fI_6 = some ⟨ioc_6, iod_6, .func (PySem.W.ksFn "__init__" "InvalidQuestion.__init__" (PySem.BkErr.iA ⟨45, 17, 45, 21⟩ ⟨45, 23, 45, 25⟩) (PySem.BkErr.iB ⟨46, 8, 46, 13⟩ ⟨46, 8, 46, 15⟩ ⟨46, 8, 46, 24⟩ ⟨46, 25, 46, 27⟩ ⟨46, 8, 46, 28⟩ ⟨46, 8, 46, 28⟩ ⟨47, 8, 47, 12⟩ ⟨47, 8, 47, 15⟩ ⟨47, 18, 47, 20⟩ ⟨47, 8, 47, 20⟩) PySem.BkErr.iS .none .none idc_6 ipm_6 ian_6 (.ref cda_6) ict_6 cc_6), isl_6⟩)
  (ic_6 : PySem.W.codeIn K (.ref cda_6) "InvalidQuestion.__init__" = true)
  (icl_6 : K.lookup cc_6 = some ⟨ilc_6, ild_6, .cell (some (.ref C_6)), ils_6⟩)
  (ico_6 : K.lookup cda_6 = some ⟨ikc_6, ikd_6, .fields ivs_6, iks_6⟩)
  (iv_6 : ivs_6[2]? = some (.str ifile_6 itf_6))
  (iff_6 : ((l.prog.main.file : Str) == ifile_6) = true)
  (eC_7 : PySem.W.nsIn K mainGlobals "InvalidText" = some (some (.ref C_7)))
  (ex_7 : K.lookup C_7 = some (excClassObj enm_7 eq_7 C_7 eN_7 ebs_7 [.ref B_7, .type "ValueError", .type "Exception", .type "BaseException", .type "object"] true esn_7 esub_7 eab_7 ecol_7 edd_7 em0_7 em1_7 em2_7 em3_7 em5_7 "ValueError.__new__"))
  (esa_7 : PySem.W.findIn K (.ref C_7) "__setattr__" = some (some (.builtin "object.__setattr__")))
  (ega_7 : PySem.W.findIn K (.ref C_7) "__getattribute__" = some (some (.builtin "BaseException.__getattribute__")))
  (egg_7 : PySem.W.findIn K (.ref C_7) "__getattr__" = some none)
  (eno_7 : PySem.W.findIn K (.ref C_7) "at" = some none)
  (ei_7 : PySem.W.findIn K (.ref C_7) "__init__" = some (some (.ref fI_7)))
  (et_7 : PySem.W.typeIn K (.ref fI_7) = some (.type "function"))
  (ek_7 : PySem.W.keepIn K (.ref C_7) = true)
  (eb_7 : PySem.W.subIn K (.ref C_7) (.type "BaseException") = some true)
  (ev_7 : PySem.W.subIn K (.ref C_7) (.type "ValueError") = some true)
  (ety_7 : PySem.W.typeIn K (.ref C_7) = some (.type "type"))
  (eh_7 : PySem.W.hasDictIn K C_7 = true)
  (eis_7 : PySem.W.isClsIn K C_7 = true)
  (ess_7 : PySem.W.subIn K (.ref C_7) (.ref C_7) = some true)
  (emr_7 : PySem.W.mroIn K C_7 (.ref C_7) = some true)
  (esu_7 : PySem.W.ks_superIn K C_7 C_7 "__init__" = some (some (.builtin "ValueError.__init__")))
  (il_7 : K.lookup fI_7 = some ⟨ioc_7, iod_7, .func (PySem.W.ksFn "__init__" "InvalidText.__init__" (PySem.BkErr.iA ⟨50, 17, 50, 21⟩ ⟨50, 23, 50, 25⟩) (PySem.BkErr.iB ⟨51, 8, 51, 13⟩ ⟨51, 8, 51, 15⟩ ⟨51, 8, 51, 24⟩ ⟨51, 25, 51, 27⟩ ⟨51, 8, 51, 28⟩ ⟨51, 8, 51, 28⟩ ⟨52, 8, 52, 12⟩ ⟨52, 8, 52, 15⟩ ⟨52, 18, 52, 20⟩ ⟨52, 8, 52, 20⟩) PySem.BkErr.iS .none .none idc_7 ipm_7 ian_7 (.ref cda_7) ict_7 cc_7), isl_7⟩)
  (ic_7 : PySem.W.codeIn K (.ref cda_7) "InvalidText.__init__" = true)
  (icl_7 : K.lookup cc_7 = some ⟨ilc_7, ild_7, .cell (some (.ref C_7)), ils_7⟩)
  (ico_7 : K.lookup cda_7 = some ⟨ikc_7, ikd_7, .fields ivs_7, iks_7⟩)
  (iv_7 : ivs_7[2]? = some (.str ifile_7 itf_7))
  (iff_7 : ((l.prog.main.file : Str) == ifile_7) = true)
  (eC_8 : PySem.W.nsIn K mainGlobals "Refused" = some (some (.ref C_8)))
  (ex_8 : K.lookup C_8 = some (excClassObj enm_8 eq_8 C_8 eN_8 ebs_8 [.ref B_8, .type "ValueError", .type "Exception", .type "BaseException", .type "object"] true esn_8 esub_8 eab_8 ecol_8 edd_8 em0_8 em1_8 em2_8 em3_8 em5_8 "ValueError.__new__"))
  (esa_8 : PySem.W.findIn K (.ref C_8) "__setattr__" = some (some (.builtin "object.__setattr__")))
  (ega_8 : PySem.W.findIn K (.ref C_8) "__getattribute__" = some (some (.builtin "BaseException.__getattribute__")))
  (egg_8 : PySem.W.findIn K (.ref C_8) "__getattr__" = some none)
  (eno_8 : PySem.W.findIn K (.ref C_8) "at" = some none)
  (ei_8 : PySem.W.findIn K (.ref C_8) "__init__" = some (some (.ref fI_8)))
  (et_8 : PySem.W.typeIn K (.ref fI_8) = some (.type "function"))
  (ek_8 : PySem.W.keepIn K (.ref C_8) = true)
  (eb_8 : PySem.W.subIn K (.ref C_8) (.type "BaseException") = some true)
  (ev_8 : PySem.W.subIn K (.ref C_8) (.type "ValueError") = some true)
  (ety_8 : PySem.W.typeIn K (.ref C_8) = some (.type "type"))
  (eh_8 : PySem.W.hasDictIn K C_8 = true)
  (eis_8 : PySem.W.isClsIn K C_8 = true)
  (ess_8 : PySem.W.subIn K (.ref C_8) (.ref C_8) = some true)
  (emr_8 : PySem.W.mroIn K C_8 (.ref C_8) = some true)
  (esu_8 : PySem.W.ks_superIn K C_8 C_8 "__init__" = some (some (.builtin "ValueError.__init__")))
  (il_8 : K.lookup fI_8 = some ⟨ioc_8, iod_8, .func (PySem.W.ksFn "__init__" "Refused.__init__" (PySem.BkErr.iA ⟨55, 17, 55, 21⟩ ⟨55, 23, 55, 25⟩) (PySem.BkErr.iB ⟨56, 8, 56, 13⟩ ⟨56, 8, 56, 15⟩ ⟨56, 8, 56, 24⟩ ⟨56, 25, 56, 27⟩ ⟨56, 8, 56, 28⟩ ⟨56, 8, 56, 28⟩ ⟨57, 8, 57, 12⟩ ⟨57, 8, 57, 15⟩ ⟨57, 18, 57, 20⟩ ⟨57, 8, 57, 20⟩) PySem.BkErr.iS .none .none idc_8 ipm_8 ian_8 (.ref cda_8) ict_8 cc_8), isl_8⟩)
  (ic_8 : PySem.W.codeIn K (.ref cda_8) "Refused.__init__" = true)
  (icl_8 : K.lookup cc_8 = some ⟨ilc_8, ild_8, .cell (some (.ref C_8)), ils_8⟩)
  (ico_8 : K.lookup cda_8 = some ⟨ikc_8, ikd_8, .fields ivs_8, iks_8⟩)
  (iv_8 : ivs_8[2]? = some (.str ifile_8 itf_8))
  (iff_8 : ((l.prog.main.file : Str) == ifile_8) = true)
  (gc0 : PySem.W.nsIn K mainGlobals "MOST_SIGNS" = some (some (.int 12 t0)))
  (gc1 : PySem.W.nsIn K mainGlobals "LETTERS" = some (some (.str "abcdefghijklmnopqrstuvwxyz" t1)))
  (gc2 : PySem.W.nsIn K mainGlobals "DIGITS" = some (some (.str "0123456789" t2)))
  (pg0 : PySem.W.nsIn K mainGlobals "WORDS" = some (some (.ref pa0)))
  (pl0 : K.lookup pa0 = some ⟨.type "tuple", po0, .seq #[.str "num" w0_0, .str "name" w0_1, .str "at" w0_2, .str "add" w0_3, .str "sub" w0_4, .str "mul" w0_5, .str "both" w0_6, .str "any" w0_7, .str "mix" w0_8, .str "less" w0_9, .str "same" w0_10, .str "not" w0_11, .str "div" w0_12, .str "mod" w0_13, .str "top" w0_14, .str "many" w0_15, .str "skip" w0_16, .str "plus" w0_17, .str "minus" w0_18, .str "times" w0_19, .str "turn" w0_20, .str "swap" w0_21, .str "push" w0_22, .str "pop" w0_23, .str "if" w0_24, .str "then" w0_25, .str "else" w0_26, .str "end" w0_27, .str "loop" w0_28, .str "from" w0_29, .str "do" w0_30, .str "until" w0_31, .str "local" w0_32, .str "in" w0_33, .str "call" w0_34, .str "uncall" w0_35, .str "row" w0_36, .str "proc" w0_37, .str "word" w0_38, .str "array" w0_39, .str "stack" w0_40, .str "module" w0_41, .str "needs" w0_42, .str "width" w0_43, .str "by" w0_44, .str "with" w0_45, .str "send" w0_46, .str "take" w0_47, .str "out" w0_48, .str "net" w0_49, .str "hands" w0_50, .str "channels" w0_51, .str "begin" w0_52, .str "fork" w0_53, .str "join" w0_54, .str "jump" w0_55, .str "land" w0_56, .str "set" w0_57, .str "exchange" w0_58, .str "face" w0_59, .str "code" w0_60, .str "slots" w0_61] pn0, ps0⟩)
  (nC_9 : PySem.W.nsIn K mainGlobals "InvalidCommand" = some (some (.ref C_9)))
  (nCB : PySem.W.nsIn K mainGlobals "BackError" = some (some (.ref CB_)))
  (iga : PySem.W.findIn K (.ref C_9) "__getattribute__" = some (some (.builtin "BaseException.__getattribute__")))
  (igg : PySem.W.findIn K (.ref C_9) "__getattr__" = some none)
  (xb_9 : PySem.W.subIn K (.ref C_9) (.type "BaseException") = some true)
  (xi_9 : PySem.W.isClsIn K C_9 = true)
  (xt_9 : PySem.W.typeIn K (.ref C_9) = some (.type "type"))
  (xb_B : PySem.W.subIn K (.ref CB_) (.type "BaseException") = some true)
  (xi_B : PySem.W.isClsIn K CB_ = true)
  (xt_B : PySem.W.typeIn K (.ref CB_) = some (.type "type"))
  (xk_9 : PySem.W.keepIn K (.ref C_9) = true)
  (xq_9 : PySem.W.excIn K C_9 [.type "ValueError", .type "Exception", .type "BaseException", .type "object"] "ValueError.__new__" = true)
  (zVE : PySem.W.nsIn K mainGlobals "ValueError" = some none)
  (gsp : PySem.W.specialIn K (.builtin "object.__class__") "__get__" = some (some (.builtin "getset_descriptor.__get__")))
  (gtk : PySem.W.takesIn K (.builtin "object.__class__") = some true)
  (xc_0 : PySem.W.findIn K (.ref C_0) "__class__" = some (some (.builtin "object.__class__")))
  (xo_0 : PySem.W.mroIn K C_0 (.type "object") = some true)
  (xB_0 : PySem.W.subIn K (.ref C_0) (.ref CB_) = some true)
  (kt_0_0 : PySem.W.kitOne K (.ref C_0) (.ref C_0) = some true)
  (kt_0_1 : PySem.W.kitOne K (.ref C_0) (.ref C_1) = some false)
  (kt_0_2 : PySem.W.kitOne K (.ref C_0) (.ref C_2) = some false)
  (kt_0_3 : PySem.W.kitOne K (.ref C_0) (.ref C_3) = some false)
  (kt_0_4 : PySem.W.kitOne K (.ref C_0) (.ref C_4) = some false)
  (kt_0_5 : PySem.W.kitOne K (.ref C_0) (.ref C_5) = some false)
  (kt_0_6 : PySem.W.kitOne K (.ref C_0) (.ref C_6) = some false)
  (kt_0_7 : PySem.W.kitOne K (.ref C_0) (.ref C_7) = some false)
  (kt_0_8 : PySem.W.kitOne K (.ref C_0) (.ref C_8) = some false)
  (kt_0_9 : PySem.W.kitOne K (.ref C_0) (.ref C_9) = some false)
  (kv_0 : PySem.W.kitOne K (.ref C_0) (.type "ValueError") = some true)
  (xc_1 : PySem.W.findIn K (.ref C_1) "__class__" = some (some (.builtin "object.__class__")))
  (xo_1 : PySem.W.mroIn K C_1 (.type "object") = some true)
  (xB_1 : PySem.W.subIn K (.ref C_1) (.ref CB_) = some true)
  (kt_1_0 : PySem.W.kitOne K (.ref C_1) (.ref C_0) = some false)
  (kt_1_1 : PySem.W.kitOne K (.ref C_1) (.ref C_1) = some true)
  (kt_1_2 : PySem.W.kitOne K (.ref C_1) (.ref C_2) = some false)
  (kt_1_3 : PySem.W.kitOne K (.ref C_1) (.ref C_3) = some false)
  (kt_1_4 : PySem.W.kitOne K (.ref C_1) (.ref C_4) = some false)
  (kt_1_5 : PySem.W.kitOne K (.ref C_1) (.ref C_5) = some false)
  (kt_1_6 : PySem.W.kitOne K (.ref C_1) (.ref C_6) = some false)
  (kt_1_7 : PySem.W.kitOne K (.ref C_1) (.ref C_7) = some false)
  (kt_1_8 : PySem.W.kitOne K (.ref C_1) (.ref C_8) = some false)
  (kt_1_9 : PySem.W.kitOne K (.ref C_1) (.ref C_9) = some false)
  (kv_1 : PySem.W.kitOne K (.ref C_1) (.type "ValueError") = some true)
  (xc_2 : PySem.W.findIn K (.ref C_2) "__class__" = some (some (.builtin "object.__class__")))
  (xo_2 : PySem.W.mroIn K C_2 (.type "object") = some true)
  (xB_2 : PySem.W.subIn K (.ref C_2) (.ref CB_) = some true)
  (kt_2_0 : PySem.W.kitOne K (.ref C_2) (.ref C_0) = some false)
  (kt_2_1 : PySem.W.kitOne K (.ref C_2) (.ref C_1) = some false)
  (kt_2_2 : PySem.W.kitOne K (.ref C_2) (.ref C_2) = some true)
  (kt_2_3 : PySem.W.kitOne K (.ref C_2) (.ref C_3) = some false)
  (kt_2_4 : PySem.W.kitOne K (.ref C_2) (.ref C_4) = some false)
  (kt_2_5 : PySem.W.kitOne K (.ref C_2) (.ref C_5) = some false)
  (kt_2_6 : PySem.W.kitOne K (.ref C_2) (.ref C_6) = some false)
  (kt_2_7 : PySem.W.kitOne K (.ref C_2) (.ref C_7) = some false)
  (kt_2_8 : PySem.W.kitOne K (.ref C_2) (.ref C_8) = some false)
  (kt_2_9 : PySem.W.kitOne K (.ref C_2) (.ref C_9) = some false)
  (kv_2 : PySem.W.kitOne K (.ref C_2) (.type "ValueError") = some true)
  (xc_3 : PySem.W.findIn K (.ref C_3) "__class__" = some (some (.builtin "object.__class__")))
  (xo_3 : PySem.W.mroIn K C_3 (.type "object") = some true)
  (xB_3 : PySem.W.subIn K (.ref C_3) (.ref CB_) = some true)
  (kt_3_0 : PySem.W.kitOne K (.ref C_3) (.ref C_0) = some false)
  (kt_3_1 : PySem.W.kitOne K (.ref C_3) (.ref C_1) = some false)
  (kt_3_2 : PySem.W.kitOne K (.ref C_3) (.ref C_2) = some false)
  (kt_3_3 : PySem.W.kitOne K (.ref C_3) (.ref C_3) = some true)
  (kt_3_4 : PySem.W.kitOne K (.ref C_3) (.ref C_4) = some false)
  (kt_3_5 : PySem.W.kitOne K (.ref C_3) (.ref C_5) = some false)
  (kt_3_6 : PySem.W.kitOne K (.ref C_3) (.ref C_6) = some false)
  (kt_3_7 : PySem.W.kitOne K (.ref C_3) (.ref C_7) = some false)
  (kt_3_8 : PySem.W.kitOne K (.ref C_3) (.ref C_8) = some false)
  (kt_3_9 : PySem.W.kitOne K (.ref C_3) (.ref C_9) = some false)
  (kv_3 : PySem.W.kitOne K (.ref C_3) (.type "ValueError") = some true)
  (xc_4 : PySem.W.findIn K (.ref C_4) "__class__" = some (some (.builtin "object.__class__")))
  (xo_4 : PySem.W.mroIn K C_4 (.type "object") = some true)
  (xB_4 : PySem.W.subIn K (.ref C_4) (.ref CB_) = some true)
  (kt_4_0 : PySem.W.kitOne K (.ref C_4) (.ref C_0) = some false)
  (kt_4_1 : PySem.W.kitOne K (.ref C_4) (.ref C_1) = some false)
  (kt_4_2 : PySem.W.kitOne K (.ref C_4) (.ref C_2) = some false)
  (kt_4_3 : PySem.W.kitOne K (.ref C_4) (.ref C_3) = some false)
  (kt_4_4 : PySem.W.kitOne K (.ref C_4) (.ref C_4) = some true)
  (kt_4_5 : PySem.W.kitOne K (.ref C_4) (.ref C_5) = some false)
  (kt_4_6 : PySem.W.kitOne K (.ref C_4) (.ref C_6) = some false)
  (kt_4_7 : PySem.W.kitOne K (.ref C_4) (.ref C_7) = some false)
  (kt_4_8 : PySem.W.kitOne K (.ref C_4) (.ref C_8) = some false)
  (kt_4_9 : PySem.W.kitOne K (.ref C_4) (.ref C_9) = some false)
  (kv_4 : PySem.W.kitOne K (.ref C_4) (.type "ValueError") = some true)
  (xc_5 : PySem.W.findIn K (.ref C_5) "__class__" = some (some (.builtin "object.__class__")))
  (xo_5 : PySem.W.mroIn K C_5 (.type "object") = some true)
  (xB_5 : PySem.W.subIn K (.ref C_5) (.ref CB_) = some true)
  (kt_5_0 : PySem.W.kitOne K (.ref C_5) (.ref C_0) = some false)
  (kt_5_1 : PySem.W.kitOne K (.ref C_5) (.ref C_1) = some false)
  (kt_5_2 : PySem.W.kitOne K (.ref C_5) (.ref C_2) = some false)
  (kt_5_3 : PySem.W.kitOne K (.ref C_5) (.ref C_3) = some false)
  (kt_5_4 : PySem.W.kitOne K (.ref C_5) (.ref C_4) = some false)
  (kt_5_5 : PySem.W.kitOne K (.ref C_5) (.ref C_5) = some true)
  (kt_5_6 : PySem.W.kitOne K (.ref C_5) (.ref C_6) = some false)
  (kt_5_7 : PySem.W.kitOne K (.ref C_5) (.ref C_7) = some false)
  (kt_5_8 : PySem.W.kitOne K (.ref C_5) (.ref C_8) = some false)
  (kt_5_9 : PySem.W.kitOne K (.ref C_5) (.ref C_9) = some false)
  (kv_5 : PySem.W.kitOne K (.ref C_5) (.type "ValueError") = some true)
  (xc_6 : PySem.W.findIn K (.ref C_6) "__class__" = some (some (.builtin "object.__class__")))
  (xo_6 : PySem.W.mroIn K C_6 (.type "object") = some true)
  (xB_6 : PySem.W.subIn K (.ref C_6) (.ref CB_) = some true)
  (kt_6_0 : PySem.W.kitOne K (.ref C_6) (.ref C_0) = some false)
  (kt_6_1 : PySem.W.kitOne K (.ref C_6) (.ref C_1) = some false)
  (kt_6_2 : PySem.W.kitOne K (.ref C_6) (.ref C_2) = some false)
  (kt_6_3 : PySem.W.kitOne K (.ref C_6) (.ref C_3) = some false)
  (kt_6_4 : PySem.W.kitOne K (.ref C_6) (.ref C_4) = some false)
  (kt_6_5 : PySem.W.kitOne K (.ref C_6) (.ref C_5) = some false)
  (kt_6_6 : PySem.W.kitOne K (.ref C_6) (.ref C_6) = some true)
  (kt_6_7 : PySem.W.kitOne K (.ref C_6) (.ref C_7) = some false)
  (kt_6_8 : PySem.W.kitOne K (.ref C_6) (.ref C_8) = some false)
  (kt_6_9 : PySem.W.kitOne K (.ref C_6) (.ref C_9) = some false)
  (kv_6 : PySem.W.kitOne K (.ref C_6) (.type "ValueError") = some true)
  (xc_7 : PySem.W.findIn K (.ref C_7) "__class__" = some (some (.builtin "object.__class__")))
  (xo_7 : PySem.W.mroIn K C_7 (.type "object") = some true)
  (xB_7 : PySem.W.subIn K (.ref C_7) (.ref CB_) = some true)
  (kt_7_0 : PySem.W.kitOne K (.ref C_7) (.ref C_0) = some false)
  (kt_7_1 : PySem.W.kitOne K (.ref C_7) (.ref C_1) = some false)
  (kt_7_2 : PySem.W.kitOne K (.ref C_7) (.ref C_2) = some false)
  (kt_7_3 : PySem.W.kitOne K (.ref C_7) (.ref C_3) = some false)
  (kt_7_4 : PySem.W.kitOne K (.ref C_7) (.ref C_4) = some false)
  (kt_7_5 : PySem.W.kitOne K (.ref C_7) (.ref C_5) = some false)
  (kt_7_6 : PySem.W.kitOne K (.ref C_7) (.ref C_6) = some false)
  (kt_7_7 : PySem.W.kitOne K (.ref C_7) (.ref C_7) = some true)
  (kt_7_8 : PySem.W.kitOne K (.ref C_7) (.ref C_8) = some false)
  (kt_7_9 : PySem.W.kitOne K (.ref C_7) (.ref C_9) = some false)
  (kv_7 : PySem.W.kitOne K (.ref C_7) (.type "ValueError") = some true)
  (xc_8 : PySem.W.findIn K (.ref C_8) "__class__" = some (some (.builtin "object.__class__")))
  (xo_8 : PySem.W.mroIn K C_8 (.type "object") = some true)
  (xB_8 : PySem.W.subIn K (.ref C_8) (.ref CB_) = some true)
  (kt_8_0 : PySem.W.kitOne K (.ref C_8) (.ref C_0) = some false)
  (kt_8_1 : PySem.W.kitOne K (.ref C_8) (.ref C_1) = some false)
  (kt_8_2 : PySem.W.kitOne K (.ref C_8) (.ref C_2) = some false)
  (kt_8_3 : PySem.W.kitOne K (.ref C_8) (.ref C_3) = some false)
  (kt_8_4 : PySem.W.kitOne K (.ref C_8) (.ref C_4) = some false)
  (kt_8_5 : PySem.W.kitOne K (.ref C_8) (.ref C_5) = some false)
  (kt_8_6 : PySem.W.kitOne K (.ref C_8) (.ref C_6) = some false)
  (kt_8_7 : PySem.W.kitOne K (.ref C_8) (.ref C_7) = some false)
  (kt_8_8 : PySem.W.kitOne K (.ref C_8) (.ref C_8) = some true)
  (kt_8_9 : PySem.W.kitOne K (.ref C_8) (.ref C_9) = some false)
  (kv_8 : PySem.W.kitOne K (.ref C_8) (.type "ValueError") = some true)
  (xc_9 : PySem.W.findIn K (.ref C_9) "__class__" = some (some (.builtin "object.__class__")))
  (xo_9 : PySem.W.mroIn K C_9 (.type "object") = some true)
  (xB_9 : PySem.W.subIn K (.ref C_9) (.ref CB_) = some true)
  (kt_9_0 : PySem.W.kitOne K (.ref C_9) (.ref C_0) = some false)
  (kt_9_1 : PySem.W.kitOne K (.ref C_9) (.ref C_1) = some false)
  (kt_9_2 : PySem.W.kitOne K (.ref C_9) (.ref C_2) = some false)
  (kt_9_3 : PySem.W.kitOne K (.ref C_9) (.ref C_3) = some false)
  (kt_9_4 : PySem.W.kitOne K (.ref C_9) (.ref C_4) = some false)
  (kt_9_5 : PySem.W.kitOne K (.ref C_9) (.ref C_5) = some false)
  (kt_9_6 : PySem.W.kitOne K (.ref C_9) (.ref C_6) = some false)
  (kt_9_7 : PySem.W.kitOne K (.ref C_9) (.ref C_7) = some false)
  (kt_9_8 : PySem.W.kitOne K (.ref C_9) (.ref C_8) = some false)
  (kt_9_9 : PySem.W.kitOne K (.ref C_9) (.ref C_9) = some true)
  (z_abs : PySem.W.nsIn K mainGlobals "abs" = some none)
  (z_int : PySem.W.nsIn K mainGlobals "int" = some none)
  (z_len : PySem.W.nsIn K mainGlobals "len" = some none)
  (z_range : PySem.W.nsIn K mainGlobals "range" = some none)
  (z_isinstance : PySem.W.nsIn K mainGlobals "isinstance" = some none)
  (z_tuple : PySem.W.nsIn K mainGlobals "tuple" = some none)
  (z_list : PySem.W.nsIn K mainGlobals "list" = some none)
  (z_bool : PySem.W.nsIn K mainGlobals "bool" = some none)
  (z_str : PySem.W.nsIn K mainGlobals "str" = some none)
  (z_zip : PySem.W.nsIn K mainGlobals "zip" = some none)
  (z_enumerate : PySem.W.nsIn K mainGlobals "enumerate" = some none)
  (z_sorted : PySem.W.nsIn K mainGlobals "sorted" = some none)
  (z_min : PySem.W.nsIn K mainGlobals "min" = some none)
  (z_max : PySem.W.nsIn K mainGlobals "max" = some none)
  (z_all : PySem.W.nsIn K mainGlobals "all" = some none)
  (z_any : PySem.W.nsIn K mainGlobals "any" = some none)
  (z_sum : PySem.W.nsIn K mainGlobals "sum" = some none)
  (z_dict : PySem.W.nsIn K mainGlobals "dict" = some none) :
    ∃ fd : FuncData, (∀ (s : Shared) (v : Value), BindsTo s fd ⟨[v], []⟩ [("script", v)]) ∧ ∀ base : Heap, K.In base → base.Ns mainGlobals mg → FnOk l.prog w K mg base CX0 5 fa fd ["script"] (spLaw K) := by
  have e := hfa.symm.trans (PySem.W.mg_of X G aL)
  cases e
  have F0 : Fn K mg "_law_draw" s_draw ["script", "salt"] := fn_mk X G (fun _ _ _ _ _ _ us hl => match us, hl with | [_, _], _ => rfl) (fun _ _ _ _ _ _ us hl => match us, hl with | [_, _], _ => rfl) a0 l0 c0 k0
  have F1 : Fn K mg "_law_any" s_any ["deal", "bound"] := fn_mk X G (fun _ _ _ _ _ _ us hl => match us, hl with | [_, _], _ => rfl) (fun _ _ _ _ _ _ us hl => match us, hl with | [_, _], _ => rfl) a1 l1 c1 k1
  have F2 : Fn K mg "_law_of" s_of ["deal", "some"] := fn_mk X G (fun _ _ _ _ _ _ us hl => match us, hl with | [_, _], _ => rfl) (fun _ _ _ _ _ _ us hl => match us, hl with | [_, _], _ => rfl) a2 l2 c2 k2
  have F3 : Fn K mg "_law_same" s_sameH ["value", "due"] := fn_mk X G (fun _ _ _ _ _ _ us hl => match us, hl with | [_, _], _ => rfl) (fun _ _ _ _ _ _ us hl => match us, hl with | [_, _], _ => rfl) a3 l3 c3 k3
  have F4 : Fn K mg "_law_raised" s_raised ["turn", "thing"] := fn_mk X G (fun _ _ _ _ _ _ us hl => match us, hl with | [_, _], _ => rfl) (fun _ _ _ _ _ _ us hl => match us, hl with | [_, _], _ => rfl) a4 l4 c4 k4
  have F5 : Fn K mg "_law_kinds" s_kinds ["thing"] := fn_mk X G (fun _ _ _ _ _ _ us hl => match us, hl with | [_], _ => rfl) (fun _ _ _ _ _ _ us hl => match us, hl with | [_], _ => rfl) a5 l5 c5 k5
  have F6 : Fn K mg "is_name" s_isname ["value"] := fn_mk X G (fun _ _ _ _ _ _ us hl => match us, hl with | [_], _ => rfl) (fun _ _ _ _ _ _ us hl => match us, hl with | [_], _ => rfl) a6 l6 c6 k6
  have F7 : Fn K mg "_law_is_name" s_lisname ["value"] := fn_mk X G (fun _ _ _ _ _ _ us hl => match us, hl with | [_], _ => rfl) (fun _ _ _ _ _ _ us hl => match us, hl with | [_], _ => rfl) a7 l7 c7 k7
  have Z : Bz mg := ⟨PySem.W.mg_none_of X G z_abs, PySem.W.mg_none_of X G z_int, PySem.W.mg_none_of X G z_len, PySem.W.mg_none_of X G z_range, PySem.W.mg_none_of X G z_isinstance, PySem.W.mg_none_of X G z_tuple, PySem.W.mg_none_of X G z_list, PySem.W.mg_none_of X G z_bool, PySem.W.mg_none_of X G z_str, PySem.W.mg_none_of X G z_zip, PySem.W.mg_none_of X G z_enumerate, PySem.W.mg_none_of X G z_sorted, PySem.W.mg_none_of X G z_min, PySem.W.mg_none_of X G z_max, PySem.W.mg_none_of X G z_all, PySem.W.mg_none_of X G z_any, PySem.W.mg_none_of X G z_sum, PySem.W.mg_none_of X G z_dict⟩
  have g_MOST_SIGNS : ∃ u, mg "MOST_SIGNS" = some u ∧ RelV (.int 12) u := ⟨_, PySem.W.mg_of X G gc0, _, rfl⟩
  have g_LETTERS : ∃ u, mg "LETTERS" = some u ∧ RelV (.str "abcdefghijklmnopqrstuvwxyz") u := ⟨_, PySem.W.mg_of X G gc1, _, rfl⟩
  have g_DIGITS : ∃ u, mg "DIGITS" = some u ∧ RelV (.str "0123456789") u := ⟨_, PySem.W.mg_of X G gc2, _, rfl⟩
  have gT_WORDS : ∃ pa, (∃ u, mg "WORDS" = some u ∧ RelV (.ref pa) u) ∧ ∀ H, SqT K H pa wordsV := ⟨pa0, ⟨_, PySem.W.mg_of X G pg0, rfl⟩, fun H => .inr ⟨_, _, _, pl0, rfl, rfl, (by show 62 ≤ sizeLine; decide), .cons ⟨_, rfl⟩ (.cons ⟨_, rfl⟩ (.cons ⟨_, rfl⟩ (.cons ⟨_, rfl⟩ (.cons ⟨_, rfl⟩ (.cons ⟨_, rfl⟩ (.cons ⟨_, rfl⟩ (.cons ⟨_, rfl⟩ (.cons ⟨_, rfl⟩ (.cons ⟨_, rfl⟩ (.cons ⟨_, rfl⟩ (.cons ⟨_, rfl⟩ (.cons ⟨_, rfl⟩ (.cons ⟨_, rfl⟩ (.cons ⟨_, rfl⟩ (.cons ⟨_, rfl⟩ (.cons ⟨_, rfl⟩ (.cons ⟨_, rfl⟩ (.cons ⟨_, rfl⟩ (.cons ⟨_, rfl⟩ (.cons ⟨_, rfl⟩ (.cons ⟨_, rfl⟩ (.cons ⟨_, rfl⟩ (.cons ⟨_, rfl⟩ (.cons ⟨_, rfl⟩ (.cons ⟨_, rfl⟩ (.cons ⟨_, rfl⟩ (.cons ⟨_, rfl⟩ (.cons ⟨_, rfl⟩ (.cons ⟨_, rfl⟩ (.cons ⟨_, rfl⟩ (.cons ⟨_, rfl⟩ (.cons ⟨_, rfl⟩ (.cons ⟨_, rfl⟩ (.cons ⟨_, rfl⟩ (.cons ⟨_, rfl⟩ (.cons ⟨_, rfl⟩ (.cons ⟨_, rfl⟩ (.cons ⟨_, rfl⟩ (.cons ⟨_, rfl⟩ (.cons ⟨_, rfl⟩ (.cons ⟨_, rfl⟩ (.cons ⟨_, rfl⟩ (.cons ⟨_, rfl⟩ (.cons ⟨_, rfl⟩ (.cons ⟨_, rfl⟩ (.cons ⟨_, rfl⟩ (.cons ⟨_, rfl⟩ (.cons ⟨_, rfl⟩ (.cons ⟨_, rfl⟩ (.cons ⟨_, rfl⟩ (.cons ⟨_, rfl⟩ (.cons ⟨_, rfl⟩ (.cons ⟨_, rfl⟩ (.cons ⟨_, rfl⟩ (.cons ⟨_, rfl⟩ (.cons ⟨_, rfl⟩ (.cons ⟨_, rfl⟩ (.cons ⟨_, rfl⟩ (.cons ⟨_, rfl⟩ (.cons ⟨_, rfl⟩ (.cons ⟨_, rfl⟩ (.nil))))))))))))))))))))))))))))))))))))))))))))))))))))))))))))))⟩⟩
  have T_InvalidWord : PySem.BkErr.ErrTxt l.prog K mg "InvalidWord" C_0 fI_0 :=
    { gC := PySem.W.mg_of X G eC_0, noS := PySem.W.mg_none_of X G noSup, cls := ⟨_, _, _, _, _, _, _, _, _, _, _, _, _, _, _, ex_0, by rfl⟩, sa := esa_0, ga := ega_0, gg := egg_0, noN := eno_0, iC := ei_0, tC := et_0, kC := ek_0, exC := eb_0, veC := ev_0, tyC := ety_0, hdC := eh_0, te := exm_b eb_0 eis_0 ety_0 ess_0, mro := emr_0, op := opAny, sup := esu_0,
      fn := ⟨_, _, _, _, _, _, _, _, _, _, _, _, _, _, _, _, _, _, _, _, _, _, il_0, ic_0, ⟨_, _, _, icl_0⟩, by rfl, _, _, _, _, _, _, ico_0, iv_0, iff_0⟩, top := topSup }
  have T_InvalidProgram : PySem.BkErr.ErrTxt l.prog K mg "InvalidProgram" C_1 fI_1 :=
    { gC := PySem.W.mg_of X G eC_1, noS := PySem.W.mg_none_of X G noSup, cls := ⟨_, _, _, _, _, _, _, _, _, _, _, _, _, _, _, ex_1, by rfl⟩, sa := esa_1, ga := ega_1, gg := egg_1, noN := eno_1, iC := ei_1, tC := et_1, kC := ek_1, exC := eb_1, veC := ev_1, tyC := ety_1, hdC := eh_1, te := exm_b eb_1 eis_1 ety_1 ess_1, mro := emr_1, op := opAny, sup := esu_1,
      fn := ⟨_, _, _, _, _, _, _, _, _, _, _, _, _, _, _, _, _, _, _, _, _, _, il_1, ic_1, ⟨_, _, _, icl_1⟩, by rfl, _, _, _, _, _, _, ico_1, iv_1, iff_1⟩, top := topSup }
  have T_InvalidModule : PySem.BkErr.ErrTxt l.prog K mg "InvalidModule" C_2 fI_2 :=
    { gC := PySem.W.mg_of X G eC_2, noS := PySem.W.mg_none_of X G noSup, cls := ⟨_, _, _, _, _, _, _, _, _, _, _, _, _, _, _, ex_2, by rfl⟩, sa := esa_2, ga := ega_2, gg := egg_2, noN := eno_2, iC := ei_2, tC := et_2, kC := ek_2, exC := eb_2, veC := ev_2, tyC := ety_2, hdC := eh_2, te := exm_b eb_2 eis_2 ety_2 ess_2, mro := emr_2, op := opAny, sup := esu_2,
      fn := ⟨_, _, _, _, _, _, _, _, _, _, _, _, _, _, _, _, _, _, _, _, _, _, il_2, ic_2, ⟨_, _, _, icl_2⟩, by rfl, _, _, _, _, _, _, ico_2, iv_2, iff_2⟩, top := topSup }
  have T_InvalidCode : PySem.BkErr.ErrTxt l.prog K mg "InvalidCode" C_3 fI_3 :=
    { gC := PySem.W.mg_of X G eC_3, noS := PySem.W.mg_none_of X G noSup, cls := ⟨_, _, _, _, _, _, _, _, _, _, _, _, _, _, _, ex_3, by rfl⟩, sa := esa_3, ga := ega_3, gg := egg_3, noN := eno_3, iC := ei_3, tC := et_3, kC := ek_3, exC := eb_3, veC := ev_3, tyC := ety_3, hdC := eh_3, te := exm_b eb_3 eis_3 ety_3 ess_3, mro := emr_3, op := opAny, sup := esu_3,
      fn := ⟨_, _, _, _, _, _, _, _, _, _, _, _, _, _, _, _, _, _, _, _, _, _, il_3, ic_3, ⟨_, _, _, icl_3⟩, by rfl, _, _, _, _, _, _, ico_3, iv_3, iff_3⟩, top := topSup }
  have T_InvalidValue : PySem.BkErr.ErrTxt l.prog K mg "InvalidValue" C_4 fI_4 :=
    { gC := PySem.W.mg_of X G eC_4, noS := PySem.W.mg_none_of X G noSup, cls := ⟨_, _, _, _, _, _, _, _, _, _, _, _, _, _, _, ex_4, by rfl⟩, sa := esa_4, ga := ega_4, gg := egg_4, noN := eno_4, iC := ei_4, tC := et_4, kC := ek_4, exC := eb_4, veC := ev_4, tyC := ety_4, hdC := eh_4, te := exm_b eb_4 eis_4 ety_4 ess_4, mro := emr_4, op := opAny, sup := esu_4,
      fn := ⟨_, _, _, _, _, _, _, _, _, _, _, _, _, _, _, _, _, _, _, _, _, _, il_4, ic_4, ⟨_, _, _, icl_4⟩, by rfl, _, _, _, _, _, _, ico_4, iv_4, iff_4⟩, top := topSup }
  have T_InvalidMoment : PySem.BkErr.ErrTxt l.prog K mg "InvalidMoment" C_5 fI_5 :=
    { gC := PySem.W.mg_of X G eC_5, noS := PySem.W.mg_none_of X G noSup, cls := ⟨_, _, _, _, _, _, _, _, _, _, _, _, _, _, _, ex_5, by rfl⟩, sa := esa_5, ga := ega_5, gg := egg_5, noN := eno_5, iC := ei_5, tC := et_5, kC := ek_5, exC := eb_5, veC := ev_5, tyC := ety_5, hdC := eh_5, te := exm_b eb_5 eis_5 ety_5 ess_5, mro := emr_5, op := opAny, sup := esu_5,
      fn := ⟨_, _, _, _, _, _, _, _, _, _, _, _, _, _, _, _, _, _, _, _, _, _, il_5, ic_5, ⟨_, _, _, icl_5⟩, by rfl, _, _, _, _, _, _, ico_5, iv_5, iff_5⟩, top := topSup }
  have T_InvalidQuestion : PySem.BkErr.ErrTxt l.prog K mg "InvalidQuestion" C_6 fI_6 :=
    { gC := PySem.W.mg_of X G eC_6, noS := PySem.W.mg_none_of X G noSup, cls := ⟨_, _, _, _, _, _, _, _, _, _, _, _, _, _, _, ex_6, by rfl⟩, sa := esa_6, ga := ega_6, gg := egg_6, noN := eno_6, iC := ei_6, tC := et_6, kC := ek_6, exC := eb_6, veC := ev_6, tyC := ety_6, hdC := eh_6, te := exm_b eb_6 eis_6 ety_6 ess_6, mro := emr_6, op := opAny, sup := esu_6,
      fn := ⟨_, _, _, _, _, _, _, _, _, _, _, _, _, _, _, _, _, _, _, _, _, _, il_6, ic_6, ⟨_, _, _, icl_6⟩, by rfl, _, _, _, _, _, _, ico_6, iv_6, iff_6⟩, top := topSup }
  have T_InvalidText : PySem.BkErr.ErrTxt l.prog K mg "InvalidText" C_7 fI_7 :=
    { gC := PySem.W.mg_of X G eC_7, noS := PySem.W.mg_none_of X G noSup, cls := ⟨_, _, _, _, _, _, _, _, _, _, _, _, _, _, _, ex_7, by rfl⟩, sa := esa_7, ga := ega_7, gg := egg_7, noN := eno_7, iC := ei_7, tC := et_7, kC := ek_7, exC := eb_7, veC := ev_7, tyC := ety_7, hdC := eh_7, te := exm_b eb_7 eis_7 ety_7 ess_7, mro := emr_7, op := opAny, sup := esu_7,
      fn := ⟨_, _, _, _, _, _, _, _, _, _, _, _, _, _, _, _, _, _, _, _, _, _, il_7, ic_7, ⟨_, _, _, icl_7⟩, by rfl, _, _, _, _, _, _, ico_7, iv_7, iff_7⟩, top := topSup }
  have T_Refused : PySem.BkErr.ErrTxt l.prog K mg "Refused" C_8 fI_8 :=
    { gC := PySem.W.mg_of X G eC_8, noS := PySem.W.mg_none_of X G noSup, cls := ⟨_, _, _, _, _, _, _, _, _, _, _, _, _, _, _, ex_8, by rfl⟩, sa := esa_8, ga := ega_8, gg := egg_8, noN := eno_8, iC := ei_8, tC := et_8, kC := ek_8, exC := eb_8, veC := ev_8, tyC := ety_8, hdC := eh_8, te := exm_b eb_8 eis_8 ety_8 ess_8, mro := emr_8, op := opAny, sup := esu_8,
      fn := ⟨_, _, _, _, _, _, _, _, _, _, _, _, _, _, _, _, _, _, _, _, _, _, il_8, ic_8, ⟨_, _, _, icl_8⟩, by rfl, _, _, _, _, _, _, ico_8, iv_8, iff_8⟩, top := topSup }
  have gm_BackError : mg "BackError" = some (.ref CB_) := PySem.W.mg_of X G nCB
  have z_ValueError : mg "ValueError" = none := PySem.W.mg_none_of X G zVE
  have g9 : mg "InvalidCommand" = some (.ref ((fun i : Nat => ([C_0, C_1, C_2, C_3, C_4, C_5, C_6, C_7, C_8, C_9] : List Addr).getD i 0) 9)) := PySem.W.mg_of X G nC_9
  have q_InvalidCommand : PySem.W.excIn K ((fun i : Nat => ([C_0, C_1, C_2, C_3, C_4, C_5, C_6, C_7, C_8, C_9] : List Addr).getD i 0) 9) [.type "ValueError", .type "Exception", .type "BaseException", .type "object"] "ValueError.__new__" = true := xq_9
  have k_InvalidCommand : PySem.W.keepIn K (.ref ((fun i : Nat => ([C_0, C_1, C_2, C_3, C_4, C_5, C_6, C_7, C_8, C_9] : List Addr).getD i 0) 9)) = true := xk_9
  have t_InvalidCommand : PySem.W.typeIn K (.ref ((fun i : Nat => ([C_0, C_1, C_2, C_3, C_4, C_5, C_6, C_7, C_8, C_9] : List Addr).getD i 0) 9)) = some (.type "type") := xt_9
  have GG : ClsG K := ⟨gsp, gtk⟩
  have kit_0 : ∀ j < 10, PySem.W.kitOne K (.ref C_0) (.ref ((fun i : Nat => ([C_0, C_1, C_2, C_3, C_4, C_5, C_6, C_7, C_8, C_9] : List Addr).getD i 0) j)) = some (decide (0 = j)) := fun j hj => match j, hj with | 0, _ => kt_0_0 | 1, _ => kt_0_1 | 2, _ => kt_0_2 | 3, _ => kt_0_3 | 4, _ => kt_0_4 | 5, _ => kt_0_5 | 6, _ => kt_0_6 | 7, _ => kt_0_7 | 8, _ => kt_0_8 | 9, _ => kt_0_9 | k + 10, h => absurd h (by omega)
  have kit_1 : ∀ j < 10, PySem.W.kitOne K (.ref C_1) (.ref ((fun i : Nat => ([C_0, C_1, C_2, C_3, C_4, C_5, C_6, C_7, C_8, C_9] : List Addr).getD i 0) j)) = some (decide (1 = j)) := fun j hj => match j, hj with | 0, _ => kt_1_0 | 1, _ => kt_1_1 | 2, _ => kt_1_2 | 3, _ => kt_1_3 | 4, _ => kt_1_4 | 5, _ => kt_1_5 | 6, _ => kt_1_6 | 7, _ => kt_1_7 | 8, _ => kt_1_8 | 9, _ => kt_1_9 | k + 10, h => absurd h (by omega)
  have kit_2 : ∀ j < 10, PySem.W.kitOne K (.ref C_2) (.ref ((fun i : Nat => ([C_0, C_1, C_2, C_3, C_4, C_5, C_6, C_7, C_8, C_9] : List Addr).getD i 0) j)) = some (decide (2 = j)) := fun j hj => match j, hj with | 0, _ => kt_2_0 | 1, _ => kt_2_1 | 2, _ => kt_2_2 | 3, _ => kt_2_3 | 4, _ => kt_2_4 | 5, _ => kt_2_5 | 6, _ => kt_2_6 | 7, _ => kt_2_7 | 8, _ => kt_2_8 | 9, _ => kt_2_9 | k + 10, h => absurd h (by omega)
  have kit_3 : ∀ j < 10, PySem.W.kitOne K (.ref C_3) (.ref ((fun i : Nat => ([C_0, C_1, C_2, C_3, C_4, C_5, C_6, C_7, C_8, C_9] : List Addr).getD i 0) j)) = some (decide (3 = j)) := fun j hj => match j, hj with | 0, _ => kt_3_0 | 1, _ => kt_3_1 | 2, _ => kt_3_2 | 3, _ => kt_3_3 | 4, _ => kt_3_4 | 5, _ => kt_3_5 | 6, _ => kt_3_6 | 7, _ => kt_3_7 | 8, _ => kt_3_8 | 9, _ => kt_3_9 | k + 10, h => absurd h (by omega)
  have kit_4 : ∀ j < 10, PySem.W.kitOne K (.ref C_4) (.ref ((fun i : Nat => ([C_0, C_1, C_2, C_3, C_4, C_5, C_6, C_7, C_8, C_9] : List Addr).getD i 0) j)) = some (decide (4 = j)) := fun j hj => match j, hj with | 0, _ => kt_4_0 | 1, _ => kt_4_1 | 2, _ => kt_4_2 | 3, _ => kt_4_3 | 4, _ => kt_4_4 | 5, _ => kt_4_5 | 6, _ => kt_4_6 | 7, _ => kt_4_7 | 8, _ => kt_4_8 | 9, _ => kt_4_9 | k + 10, h => absurd h (by omega)
  have kit_5 : ∀ j < 10, PySem.W.kitOne K (.ref C_5) (.ref ((fun i : Nat => ([C_0, C_1, C_2, C_3, C_4, C_5, C_6, C_7, C_8, C_9] : List Addr).getD i 0) j)) = some (decide (5 = j)) := fun j hj => match j, hj with | 0, _ => kt_5_0 | 1, _ => kt_5_1 | 2, _ => kt_5_2 | 3, _ => kt_5_3 | 4, _ => kt_5_4 | 5, _ => kt_5_5 | 6, _ => kt_5_6 | 7, _ => kt_5_7 | 8, _ => kt_5_8 | 9, _ => kt_5_9 | k + 10, h => absurd h (by omega)
  have kit_6 : ∀ j < 10, PySem.W.kitOne K (.ref C_6) (.ref ((fun i : Nat => ([C_0, C_1, C_2, C_3, C_4, C_5, C_6, C_7, C_8, C_9] : List Addr).getD i 0) j)) = some (decide (6 = j)) := fun j hj => match j, hj with | 0, _ => kt_6_0 | 1, _ => kt_6_1 | 2, _ => kt_6_2 | 3, _ => kt_6_3 | 4, _ => kt_6_4 | 5, _ => kt_6_5 | 6, _ => kt_6_6 | 7, _ => kt_6_7 | 8, _ => kt_6_8 | 9, _ => kt_6_9 | k + 10, h => absurd h (by omega)
  have kit_7 : ∀ j < 10, PySem.W.kitOne K (.ref C_7) (.ref ((fun i : Nat => ([C_0, C_1, C_2, C_3, C_4, C_5, C_6, C_7, C_8, C_9] : List Addr).getD i 0) j)) = some (decide (7 = j)) := fun j hj => match j, hj with | 0, _ => kt_7_0 | 1, _ => kt_7_1 | 2, _ => kt_7_2 | 3, _ => kt_7_3 | 4, _ => kt_7_4 | 5, _ => kt_7_5 | 6, _ => kt_7_6 | 7, _ => kt_7_7 | 8, _ => kt_7_8 | 9, _ => kt_7_9 | k + 10, h => absurd h (by omega)
  have kit_8 : ∀ j < 10, PySem.W.kitOne K (.ref C_8) (.ref ((fun i : Nat => ([C_0, C_1, C_2, C_3, C_4, C_5, C_6, C_7, C_8, C_9] : List Addr).getD i 0) j)) = some (decide (8 = j)) := fun j hj => match j, hj with | 0, _ => kt_8_0 | 1, _ => kt_8_1 | 2, _ => kt_8_2 | 3, _ => kt_8_3 | 4, _ => kt_8_4 | 5, _ => kt_8_5 | 6, _ => kt_8_6 | 7, _ => kt_8_7 | 8, _ => kt_8_8 | 9, _ => kt_8_9 | k + 10, h => absurd h (by omega)
  have kit_9 : ∀ j < 10, PySem.W.kitOne K (.ref C_9) (.ref ((fun i : Nat => ([C_0, C_1, C_2, C_3, C_4, C_5, C_6, C_7, C_8, C_9] : List Addr).getD i 0) j)) = some (decide (9 = j)) := fun j hj => match j, hj with | 0, _ => kt_9_0 | 1, _ => kt_9_1 | 2, _ => kt_9_2 | 3, _ => kt_9_3 | 4, _ => kt_9_4 | 5, _ => kt_9_5 | 6, _ => kt_9_6 | 7, _ => kt_9_7 | 8, _ => kt_9_8 | 9, _ => kt_9_9 | k + 10, h => absurd h (by omega)
  have EX : ErrsX l.prog K mg (fun i : Nat => ([C_0, C_1, C_2, C_3, C_4, C_5, C_6, C_7, C_8, C_9] : List Addr).getD i 0) CB_ :=
    { T := fun i hi => match i, hi with | 0, _ => ⟨_, T_InvalidWord⟩ | 1, _ => ⟨_, T_InvalidProgram⟩ | 2, _ => ⟨_, T_InvalidModule⟩ | 3, _ => ⟨_, T_InvalidCode⟩ | 4, _ => ⟨_, T_InvalidValue⟩ | 5, _ => ⟨_, T_InvalidMoment⟩ | 6, _ => ⟨_, T_InvalidQuestion⟩ | 7, _ => ⟨_, T_InvalidText⟩ | 8, _ => ⟨_, T_Refused⟩ | k + 9, h => absurd h (by omega), I := fun i hi => match i, hi with | 0, _ => ⟨eis_0, ega_0, egg_0, eb_0, xc_0, xo_0⟩ | 1, _ => ⟨eis_1, ega_1, egg_1, eb_1, xc_1, xo_1⟩ | 2, _ => ⟨eis_2, ega_2, egg_2, eb_2, xc_2, xo_2⟩ | 3, _ => ⟨eis_3, ega_3, egg_3, eb_3, xc_3, xo_3⟩ | 4, _ => ⟨eis_4, ega_4, egg_4, eb_4, xc_4, xo_4⟩ | 5, _ => ⟨eis_5, ega_5, egg_5, eb_5, xc_5, xo_5⟩ | 6, _ => ⟨eis_6, ega_6, egg_6, eb_6, xc_6, xo_6⟩ | 7, _ => ⟨eis_7, ega_7, egg_7, eb_7, xc_7, xo_7⟩ | 8, _ => ⟨eis_8, ega_8, egg_8, eb_8, xc_8, xo_8⟩ | 9, _ => ⟨xi_9, iga, igg, xb_9, xc_9, xo_9⟩ | k + 10, h => absurd h (by omega), kit := fun i hi => match i, hi with | 0, _ => kit_0 | 1, _ => kit_1 | 2, _ => kit_2 | 3, _ => kit_3 | 4, _ => kit_4 | 5, _ => kit_5 | 6, _ => kit_6 | 7, _ => kit_7 | 8, _ => kit_8 | 9, _ => kit_9 | k + 10, h => absurd h (by omega), ve := fun i hi => match i, hi with | 0, _ => kv_0 | 1, _ => kv_1 | 2, _ => kv_2 | 3, _ => kv_3 | 4, _ => kv_4 | 5, _ => kv_5 | 6, _ => kv_6 | 7, _ => kv_7 | 8, _ => kv_8 | k + 9, h => absurd h (by omega),
      ex := fun i hi => match i, hi with | 0, _ => exm_b xb_B xi_B xt_B xB_0 | 1, _ => exm_b xb_B xi_B xt_B xB_1 | 2, _ => exm_b xb_B xi_B xt_B xB_2 | 3, _ => exm_b xb_B xi_B xt_B xB_3 | 4, _ => exm_b xb_B xi_B xt_B xB_4 | 5, _ => exm_b xb_B xi_B xt_B xB_5 | 6, _ => exm_b xb_B xi_B xt_B xB_6 | 7, _ => exm_b xb_B xi_B xt_B xB_7 | 8, _ => exm_b xb_B xi_B xt_B xB_8 | 9, _ => exm_b xb_B xi_B xt_B xB_9 | k + 10, h => absurd h (by omega) }
  refine ⟨PySem.W.fnOf "law" "law" (defArgs s_law) (defBody s_law) (defScope s_law) .none kVL dcL pmL anL cdL ctL, fun s v => .of_eq rfl, fun base _ _ => ?_⟩
  have C0 : Cal l.prog w K mg base 1 "_law_draw" (spDraw K) := C_draw F0 Z
  have C1 : Cal l.prog w K mg base 1 "_law_any" spAny := C_any F1 Z
  have C2 : Cal l.prog w K mg base 2 "_law_of" spOf := C_of F2 Z C1
  have C3 : Cal l.prog w K mg base (2 + 1) "_law_same" (spSame 2) := C_same F3 Z 2
  have C3a : CalH l.prog w K mg base (2 + 1) "_law_same" (spSameH 2) := C_sameH F3 Z 2
  have C4 : CalN l.prog w K mg base 1 "_law_raised" (spRaised l.prog K mg) := C_raised F4 Z T_InvalidWord T_InvalidProgram T_InvalidModule T_InvalidCode T_InvalidValue T_InvalidMoment T_InvalidQuestion T_InvalidText T_Refused
  have C5 : Cal l.prog w K mg base 4 "_law_kinds" spKinds := C_kinds F5 Z EX GG gm_BackError z_ValueError g9 q_InvalidCommand k_InvalidCommand t_InvalidCommand C4 C3a
  have C6 : CalK l.prog w K mg base 1 "is_name" ["value"] spNameX := C_isname F6 Z gT_WORDS g_MOST_SIGNS g_LETTERS g_DIGITS
  have C7 : Cal l.prog w K mg base 1 "_law_is_name" spName := C_lisname F7 Z
  exact C_law (fun_mk (st := s_law) lL cL_ kL) Z C0 C1 C2 C3 C5 C6 C7
end BkL
open PySem PySem.W PyProof.Rows
set_option maxHeartbeats 0 in
theorem PySem.Challenge.cw_backagain_k00_errors_and_names_holds : PySem.Challenge.rw_backagain_k00_errors_and_names.Holds := by
  w_on; o_law; k_head; (case hw => w_witness2)
  k_fill
  refine L2.walk_of (l := PySem.Challenge.rw_backagain_k00_errors_and_names) (n := 63) (k := 5) (x := "script") (CX := fun _ => L2.CX0) (sp := fun w => BkL.spLaw _) rfl (by decide) rfl ⟨rfl, by decide, by decide⟩ (fun w h Y => PySem.W.kIn_of Y) ?F (fun _ _ a ns hl _ hS => ⟨a, ns, rfl, hS, hl, fun _ => rfl⟩) (fun _ _ _ _ _ h => h)
  case F =>
    intro w mg fa h KX G hmg
    refine' BkL.all_mk KX G hmg ?a0 ?l0 ?c0 ?k0 ?a1 ?l1 ?c1 ?k1 ?a2 ?l2 ?c2 ?k2 ?a3 ?l3 ?c3 ?k3 ?a4 ?l4 ?c4 ?k4 ?a5 ?l5 ?c5 ?k5 ?a6 ?l6 ?c6 ?k6 ?a7 ?l7 ?c7 ?k7 ?aL ?lL ?cL_ ?kL ?noSup ?opAny ?topSup ?eC_0 ?ex_0 ?esa_0 ?ega_0 ?egg_0 ?eno_0 ?ei_0 ?et_0 ?ek_0 ?eb_0 ?ev_0 ?ety_0 ?eh_0 ?eis_0 ?ess_0 ?emr_0 ?esu_0 ?il_0 ?ic_0 ?icl_0 ?ico_0 ?iv_0 ?iff_0 ?eC_1 ?ex_1 ?esa_1 ?ega_1 ?egg_1 ?eno_1 ?ei_1 ?et_1 ?ek_1 ?eb_1 ?ev_1 ?ety_1 ?eh_1 ?eis_1 ?ess_1 ?emr_1 ?esu_1 ?il_1 ?ic_1 ?icl_1 ?ico_1 ?iv_1 ?iff_1 ?eC_2 ?ex_2 ?esa_2 ?ega_2 ?egg_2 ?eno_2 ?ei_2 ?et_2 ?ek_2 ?eb_2 ?ev_2 ?ety_2 ?eh_2 ?eis_2 ?ess_2 ?emr_2 ?esu_2 ?il_2 ?ic_2 ?icl_2 ?ico_2 ?iv_2 ?iff_2 ?eC_3 ?ex_3 ?esa_3 ?ega_3 ?egg_3 ?eno_3 ?ei_3 ?et_3 ?ek_3 ?eb_3 ?ev_3 ?ety_3 ?eh_3 ?eis_3 ?ess_3 ?emr_3 ?esu_3 ?il_3 ?ic_3 ?icl_3 ?ico_3 ?iv_3 ?iff_3 ?eC_4 ?ex_4 ?esa_4 ?ega_4 ?egg_4 ?eno_4 ?ei_4 ?et_4 ?ek_4 ?eb_4 ?ev_4 ?ety_4 ?eh_4 ?eis_4 ?ess_4 ?emr_4 ?esu_4 ?il_4 ?ic_4 ?icl_4 ?ico_4 ?iv_4 ?iff_4 ?eC_5 ?ex_5 ?esa_5 ?ega_5 ?egg_5 ?eno_5 ?ei_5 ?et_5 ?ek_5 ?eb_5 ?ev_5 ?ety_5 ?eh_5 ?eis_5 ?ess_5 ?emr_5 ?esu_5 ?il_5 ?ic_5 ?icl_5 ?ico_5 ?iv_5 ?iff_5 ?eC_6 ?ex_6 ?esa_6 ?ega_6 ?egg_6 ?eno_6 ?ei_6 ?et_6 ?ek_6 ?eb_6 ?ev_6 ?ety_6 ?eh_6 ?eis_6 ?ess_6 ?emr_6 ?esu_6 ?il_6 ?ic_6 ?icl_6 ?ico_6 ?iv_6 ?iff_6 ?eC_7 ?ex_7 ?esa_7 ?ega_7 ?egg_7 ?eno_7 ?ei_7 ?et_7 ?ek_7 ?eb_7 ?ev_7 ?ety_7 ?eh_7 ?eis_7 ?ess_7 ?emr_7 ?esu_7 ?il_7 ?ic_7 ?icl_7 ?ico_7 ?iv_7 ?iff_7 ?eC_8 ?ex_8 ?esa_8 ?ega_8 ?egg_8 ?eno_8 ?ei_8 ?et_8 ?ek_8 ?eb_8 ?ev_8 ?ety_8 ?eh_8 ?eis_8 ?ess_8 ?emr_8 ?esu_8 ?il_8 ?ic_8 ?icl_8 ?ico_8 ?iv_8 ?iff_8 ?gc0 ?gc1 ?gc2 ?pg0 ?pl0 ?nC_9 ?nCB ?iga ?igg ?xb_9 ?xi_9 ?xt_9 ?xb_B ?xi_B ?xt_B ?xk_9 ?xq_9 ?zVE ?gsp ?gtk ?xc_0 ?xo_0 ?xB_0 ?kt_0_0 ?kt_0_1 ?kt_0_2 ?kt_0_3 ?kt_0_4 ?kt_0_5 ?kt_0_6 ?kt_0_7 ?kt_0_8 ?kt_0_9 ?kv_0 ?xc_1 ?xo_1 ?xB_1 ?kt_1_0 ?kt_1_1 ?kt_1_2 ?kt_1_3 ?kt_1_4 ?kt_1_5 ?kt_1_6 ?kt_1_7 ?kt_1_8 ?kt_1_9 ?kv_1 ?xc_2 ?xo_2 ?xB_2 ?kt_2_0 ?kt_2_1 ?kt_2_2 ?kt_2_3 ?kt_2_4 ?kt_2_5 ?kt_2_6 ?kt_2_7 ?kt_2_8 ?kt_2_9 ?kv_2 ?xc_3 ?xo_3 ?xB_3 ?kt_3_0 ?kt_3_1 ?kt_3_2 ?kt_3_3 ?kt_3_4 ?kt_3_5 ?kt_3_6 ?kt_3_7 ?kt_3_8 ?kt_3_9 ?kv_3 ?xc_4 ?xo_4 ?xB_4 ?kt_4_0 ?kt_4_1 ?kt_4_2 ?kt_4_3 ?kt_4_4 ?kt_4_5 ?kt_4_6 ?kt_4_7 ?kt_4_8 ?kt_4_9 ?kv_4 ?xc_5 ?xo_5 ?xB_5 ?kt_5_0 ?kt_5_1 ?kt_5_2 ?kt_5_3 ?kt_5_4 ?kt_5_5 ?kt_5_6 ?kt_5_7 ?kt_5_8 ?kt_5_9 ?kv_5 ?xc_6 ?xo_6 ?xB_6 ?kt_6_0 ?kt_6_1 ?kt_6_2 ?kt_6_3 ?kt_6_4 ?kt_6_5 ?kt_6_6 ?kt_6_7 ?kt_6_8 ?kt_6_9 ?kv_6 ?xc_7 ?xo_7 ?xB_7 ?kt_7_0 ?kt_7_1 ?kt_7_2 ?kt_7_3 ?kt_7_4 ?kt_7_5 ?kt_7_6 ?kt_7_7 ?kt_7_8 ?kt_7_9 ?kv_7 ?xc_8 ?xo_8 ?xB_8 ?kt_8_0 ?kt_8_1 ?kt_8_2 ?kt_8_3 ?kt_8_4 ?kt_8_5 ?kt_8_6 ?kt_8_7 ?kt_8_8 ?kt_8_9 ?kv_8 ?xc_9 ?xo_9 ?xB_9 ?kt_9_0 ?kt_9_1 ?kt_9_2 ?kt_9_3 ?kt_9_4 ?kt_9_5 ?kt_9_6 ?kt_9_7 ?kt_9_8 ?kt_9_9 ?z_abs ?z_int ?z_len ?z_range ?z_isinstance ?z_tuple ?z_list ?z_bool ?z_str ?z_zip ?z_enumerate ?z_sorted ?z_min ?z_max ?z_all ?z_any ?z_sum ?z_dict
    (case a0 => k_is); (case l0 => k_is); (case c0 => k_is); (case k0 => k_is); (case a1 => k_is); (case l1 => k_is); (case c1 => k_is); (case k1 => k_is); (case a2 => k_is); (case l2 => k_is); (case c2 => k_is); (case k2 => k_is); (case a3 => k_is); (case l3 => k_is); (case c3 => k_is); (case k3 => k_is); (case a4 => k_is); (case l4 => k_is); (case c4 => k_is); (case k4 => k_is); (case a5 => k_is); (case l5 => k_is); (case c5 => k_is); (case k5 => k_is); (case a6 => k_is); (case l6 => k_is); (case c6 => k_is); (case k6 => k_is); (case a7 => k_is); (case l7 => k_is); (case c7 => k_is); (case k7 => k_is); (case aL => k_is); (case lL => k_is); (case cL_ => k_is); (case kL => k_is); (case noSup => k_is); (case opAny => k_is); (case topSup => first | rfl | decide +kernel); (case eC_0 => k_is); (case ex_0 => k_is); (case esa_0 => k_is); (case ega_0 => k_is); (case egg_0 => k_is); (case eno_0 => k_is); (case ei_0 => k_is); (case et_0 => k_is); (case ek_0 => k_is); (case eb_0 => k_is); (case ev_0 => k_is); (case ety_0 => k_is); (case eh_0 => k_is); (case eis_0 => k_is); (case ess_0 => first | rfl | k_is); (case emr_0 => k_is); (case esu_0 => ks_is); (case il_0 => k_is); (case ic_0 => k_is); (case icl_0 => k_is); (case ico_0 => k_is); (case iv_0 => rfl); (case iff_0 => first | rfl | decide +kernel); (case eC_1 => k_is); (case ex_1 => k_is); (case esa_1 => k_is); (case ega_1 => k_is); (case egg_1 => k_is); (case eno_1 => k_is); (case ei_1 => k_is); (case et_1 => k_is); (case ek_1 => k_is); (case eb_1 => k_is); (case ev_1 => k_is); (case ety_1 => k_is); (case eh_1 => k_is); (case eis_1 => k_is); (case ess_1 => first | rfl | k_is); (case emr_1 => k_is); (case esu_1 => ks_is); (case il_1 => k_is); (case ic_1 => k_is); (case icl_1 => k_is); (case ico_1 => k_is); (case iv_1 => rfl); (case iff_1 => first | rfl | decide +kernel); (case eC_2 => k_is); (case ex_2 => k_is); (case esa_2 => k_is); (case ega_2 => k_is); (case egg_2 => k_is); (case eno_2 => k_is); (case ei_2 => k_is); (case et_2 => k_is); (case ek_2 => k_is); (case eb_2 => k_is); (case ev_2 => k_is); (case ety_2 => k_is); (case eh_2 => k_is); (case eis_2 => k_is); (case ess_2 => first | rfl | k_is); (case emr_2 => k_is); (case esu_2 => ks_is); (case il_2 => k_is); (case ic_2 => k_is); (case icl_2 => k_is); (case ico_2 => k_is); (case iv_2 => rfl); (case iff_2 => first | rfl | decide +kernel); (case eC_3 => k_is); (case ex_3 => k_is); (case esa_3 => k_is); (case ega_3 => k_is); (case egg_3 => k_is); (case eno_3 => k_is); (case ei_3 => k_is); (case et_3 => k_is); (case ek_3 => k_is); (case eb_3 => k_is); (case ev_3 => k_is); (case ety_3 => k_is); (case eh_3 => k_is); (case eis_3 => k_is); (case ess_3 => first | rfl | k_is); (case emr_3 => k_is); (case esu_3 => ks_is); (case il_3 => k_is); (case ic_3 => k_is); (case icl_3 => k_is); (case ico_3 => k_is); (case iv_3 => rfl); (case iff_3 => first | rfl | decide +kernel); (case eC_4 => k_is); (case ex_4 => k_is); (case esa_4 => k_is); (case ega_4 => k_is); (case egg_4 => k_is); (case eno_4 => k_is); (case ei_4 => k_is); (case et_4 => k_is); (case ek_4 => k_is); (case eb_4 => k_is); (case ev_4 => k_is); (case ety_4 => k_is); (case eh_4 => k_is); (case eis_4 => k_is); (case ess_4 => first | rfl | k_is); (case emr_4 => k_is); (case esu_4 => ks_is); (case il_4 => k_is); (case ic_4 => k_is); (case icl_4 => k_is); (case ico_4 => k_is); (case iv_4 => rfl); (case iff_4 => first | rfl | decide +kernel); (case eC_5 => k_is); (case ex_5 => k_is); (case esa_5 => k_is); (case ega_5 => k_is); (case egg_5 => k_is); (case eno_5 => k_is); (case ei_5 => k_is); (case et_5 => k_is); (case ek_5 => k_is); (case eb_5 => k_is); (case ev_5 => k_is); (case ety_5 => k_is); (case eh_5 => k_is); (case eis_5 => k_is); (case ess_5 => first | rfl | k_is); (case emr_5 => k_is); (case esu_5 => ks_is); (case il_5 => k_is); (case ic_5 => k_is); (case icl_5 => k_is); (case ico_5 => k_is); (case iv_5 => rfl); (case iff_5 => first | rfl | decide +kernel); (case eC_6 => k_is); (case ex_6 => k_is); (case esa_6 => k_is); (case ega_6 => k_is); (case egg_6 => k_is); (case eno_6 => k_is); (case ei_6 => k_is); (case et_6 => k_is); (case ek_6 => k_is); (case eb_6 => k_is); (case ev_6 => k_is); (case ety_6 => k_is); (case eh_6 => k_is); (case eis_6 => k_is); (case ess_6 => first | rfl | k_is); (case emr_6 => k_is); (case esu_6 => ks_is); (case il_6 => k_is); (case ic_6 => k_is); (case icl_6 => k_is); (case ico_6 => k_is); (case iv_6 => rfl); (case iff_6 => first | rfl | decide +kernel); (case eC_7 => k_is); (case ex_7 => k_is); (case esa_7 => k_is); (case ega_7 => k_is); (case egg_7 => k_is); (case eno_7 => k_is); (case ei_7 => k_is); (case et_7 => k_is); (case ek_7 => k_is); (case eb_7 => k_is); (case ev_7 => k_is); (case ety_7 => k_is); (case eh_7 => k_is); (case eis_7 => k_is); (case ess_7 => first | rfl | k_is); (case emr_7 => k_is); (case esu_7 => ks_is); (case il_7 => k_is); (case ic_7 => k_is); (case icl_7 => k_is); (case ico_7 => k_is); (case iv_7 => rfl); (case iff_7 => first | rfl | decide +kernel); (case eC_8 => k_is); (case ex_8 => k_is); (case esa_8 => k_is); (case ega_8 => k_is); (case egg_8 => k_is); (case eno_8 => k_is); (case ei_8 => k_is); (case et_8 => k_is); (case ek_8 => k_is); (case eb_8 => k_is); (case ev_8 => k_is); (case ety_8 => k_is); (case eh_8 => k_is); (case eis_8 => k_is); (case ess_8 => first | rfl | k_is); (case emr_8 => k_is); (case esu_8 => ks_is); (case il_8 => k_is); (case ic_8 => k_is); (case icl_8 => k_is); (case ico_8 => k_is); (case iv_8 => rfl); (case iff_8 => first | rfl | decide +kernel); (case gc0 => k_is); (case gc1 => k_is); (case gc2 => k_is); (case pg0 => k_is); (case pl0 => k_is); (case nC_9 => k_is); (case nCB => k_is); (case iga => k_is); (case igg => k_is); (case xb_9 => k_is); (case xi_9 => k_is); (case xt_9 => k_is); (case xb_B => k_is); (case xi_B => k_is); (case xt_B => k_is); (case xk_9 => k_is); (case xq_9 => k_exc); (case zVE => k_is); (case gsp => k_is); (case gtk => k_is); (case xc_0 => k_is); (case xo_0 => k_is); (case xB_0 => k_is); (case kt_0_0 => first | rfl | k_is); (case kt_0_1 => first | rfl | k_is); (case kt_0_2 => first | rfl | k_is); (case kt_0_3 => first | rfl | k_is); (case kt_0_4 => first | rfl | k_is); (case kt_0_5 => first | rfl | k_is); (case kt_0_6 => first | rfl | k_is); (case kt_0_7 => first | rfl | k_is); (case kt_0_8 => first | rfl | k_is); (case kt_0_9 => first | rfl | k_is); (case kv_0 => first | rfl | k_is); (case xc_1 => k_is); (case xo_1 => k_is); (case xB_1 => k_is); (case kt_1_0 => first | rfl | k_is); (case kt_1_1 => first | rfl | k_is); (case kt_1_2 => first | rfl | k_is); (case kt_1_3 => first | rfl | k_is); (case kt_1_4 => first | rfl | k_is); (case kt_1_5 => first | rfl | k_is); (case kt_1_6 => first | rfl | k_is); (case kt_1_7 => first | rfl | k_is); (case kt_1_8 => first | rfl | k_is); (case kt_1_9 => first | rfl | k_is); (case kv_1 => first | rfl | k_is); (case xc_2 => k_is); (case xo_2 => k_is); (case xB_2 => k_is); (case kt_2_0 => first | rfl | k_is); (case kt_2_1 => first | rfl | k_is); (case kt_2_2 => first | rfl | k_is); (case kt_2_3 => first | rfl | k_is); (case kt_2_4 => first | rfl | k_is); (case kt_2_5 => first | rfl | k_is); (case kt_2_6 => first | rfl | k_is); (case kt_2_7 => first | rfl | k_is); (case kt_2_8 => first | rfl | k_is); (case kt_2_9 => first | rfl | k_is); (case kv_2 => first | rfl | k_is); (case xc_3 => k_is); (case xo_3 => k_is); (case xB_3 => k_is); (case kt_3_0 => first | rfl | k_is); (case kt_3_1 => first | rfl | k_is); (case kt_3_2 => first | rfl | k_is); (case kt_3_3 => first | rfl | k_is); (case kt_3_4 => first | rfl | k_is); (case kt_3_5 => first | rfl | k_is); (case kt_3_6 => first | rfl | k_is); (case kt_3_7 => first | rfl | k_is); (case kt_3_8 => first | rfl | k_is); (case kt_3_9 => first | rfl | k_is); (case kv_3 => first | rfl | k_is); (case xc_4 => k_is); (case xo_4 => k_is); (case xB_4 => k_is); (case kt_4_0 => first | rfl | k_is); (case kt_4_1 => first | rfl | k_is); (case kt_4_2 => first | rfl | k_is); (case kt_4_3 => first | rfl | k_is); (case kt_4_4 => first | rfl | k_is); (case kt_4_5 => first | rfl | k_is); (case kt_4_6 => first | rfl | k_is); (case kt_4_7 => first | rfl | k_is); (case kt_4_8 => first | rfl | k_is); (case kt_4_9 => first | rfl | k_is); (case kv_4 => first | rfl | k_is); (case xc_5 => k_is); (case xo_5 => k_is); (case xB_5 => k_is); (case kt_5_0 => first | rfl | k_is); (case kt_5_1 => first | rfl | k_is); (case kt_5_2 => first | rfl | k_is); (case kt_5_3 => first | rfl | k_is); (case kt_5_4 => first | rfl | k_is); (case kt_5_5 => first | rfl | k_is); (case kt_5_6 => first | rfl | k_is); (case kt_5_7 => first | rfl | k_is); (case kt_5_8 => first | rfl | k_is); (case kt_5_9 => first | rfl | k_is); (case kv_5 => first | rfl | k_is); (case xc_6 => k_is); (case xo_6 => k_is); (case xB_6 => k_is); (case kt_6_0 => first | rfl | k_is); (case kt_6_1 => first | rfl | k_is); (case kt_6_2 => first | rfl | k_is); (case kt_6_3 => first | rfl | k_is); (case kt_6_4 => first | rfl | k_is); (case kt_6_5 => first | rfl | k_is); (case kt_6_6 => first | rfl | k_is); (case kt_6_7 => first | rfl | k_is); (case kt_6_8 => first | rfl | k_is); (case kt_6_9 => first | rfl | k_is); (case kv_6 => first | rfl | k_is); (case xc_7 => k_is); (case xo_7 => k_is); (case xB_7 => k_is); (case kt_7_0 => first | rfl | k_is); (case kt_7_1 => first | rfl | k_is); (case kt_7_2 => first | rfl | k_is); (case kt_7_3 => first | rfl | k_is); (case kt_7_4 => first | rfl | k_is); (case kt_7_5 => first | rfl | k_is); (case kt_7_6 => first | rfl | k_is); (case kt_7_7 => first | rfl | k_is); (case kt_7_8 => first | rfl | k_is); (case kt_7_9 => first | rfl | k_is); (case kv_7 => first | rfl | k_is); (case xc_8 => k_is); (case xo_8 => k_is); (case xB_8 => k_is); (case kt_8_0 => first | rfl | k_is); (case kt_8_1 => first | rfl | k_is); (case kt_8_2 => first | rfl | k_is); (case kt_8_3 => first | rfl | k_is); (case kt_8_4 => first | rfl | k_is); (case kt_8_5 => first | rfl | k_is); (case kt_8_6 => first | rfl | k_is); (case kt_8_7 => first | rfl | k_is); (case kt_8_8 => first | rfl | k_is); (case kt_8_9 => first | rfl | k_is); (case kv_8 => first | rfl | k_is); (case xc_9 => k_is); (case xo_9 => k_is); (case xB_9 => k_is); (case kt_9_0 => first | rfl | k_is); (case kt_9_1 => first | rfl | k_is); (case kt_9_2 => first | rfl | k_is); (case kt_9_3 => first | rfl | k_is); (case kt_9_4 => first | rfl | k_is); (case kt_9_5 => first | rfl | k_is); (case kt_9_6 => first | rfl | k_is); (case kt_9_7 => first | rfl | k_is); (case kt_9_8 => first | rfl | k_is); (case kt_9_9 => first | rfl | k_is); (case z_abs => k_is); (case z_int => k_is); (case z_len => k_is); (case z_range => k_is); (case z_isinstance => k_is); (case z_tuple => k_is); (case z_list => k_is); (case z_bool => k_is); (case z_str => k_is); (case z_zip => k_is); (case z_enumerate => k_is); (case z_sorted => k_is); (case z_min => k_is); (case z_max => k_is); (case z_all => k_is); (case z_any => k_is); (case z_sum => k_is); (case z_dict => k_is)
end

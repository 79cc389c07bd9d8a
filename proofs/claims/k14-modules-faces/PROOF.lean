import PyProof.Rows.All
import Wide.All
import OpenK.AllK
import Wide.FinOn
import HandS.ForMost
import HandS.Wide
import HandS.IsInst
import HandS.EndBits
import HandS.Style
import HandS.Codes
import HandS.Conv
import HandS.Zip
import HandS.TupAny
import HandS.LawCells
import HandS.Steps
import HandS.Defaults
import KE.GoesMore
import KE.GoesEnum
import HandS.More
import KE.KDictZip
import HandS.ExcSuper
import HandS.ForExc
import KE.KExcSuper
import KE.RegKSuper
import HandS.TryMany
import HandS.EndTab
import HandS.TupMul
import HandS.Walk
import PyProof.P3Eq
import HandS.Sort
import HandS.SortOrd
import HandS.Strs
import HandS.Set
import HandS.SetFor
import PyProof.Rows.SortShellAny
import PySem.Challenge.RW_backagain_k14_whole_modules_faces
set_option Elab.async false
set_option linter.all false
set_option maxRecDepth 100000
set_option maxHeartbeats 4000000
section
namespace BkG
open PySem PySem.Spec PyProof.Rows L2

/-! ### heaps: all that stood stands; all but what is in M -/
abbrev Ex (H H' : Hp) : Prop := Same H H'
def Kp (M : List Addr) (H H' : Hp) : Prop := ∀ a o, H a = some o → a ∉ M → H' a = some o
theorem Ex.new {H : Hp} {p : Addr} {o : HO} (h : H p = none) : Ex H (upd H p o) := fun a u e => by
  rw [upd_ne (ne_of_none e h)]; exact e
theorem Kp.refl (M : List Addr) (H : Hp) : Kp M H H := fun _ _ h _ => h
theorem Kp.of {M : List Addr} {H H' : Hp} (e : Ex H H') : Kp M H H' := fun a o h _ => e a o h
theorem Kp.trans {M : List Addr} {H H1 H2 : Hp} (a : Kp M H H1) (b : Kp M H1 H2) : Kp M H H2 := fun x o h n => b x o (a x o h n) n
theorem Kp.ex {M : List Addr} {H H1 H2 : Hp} (a : Kp M H H1) (b : Ex H1 H2) : Kp M H H2 := fun x o h n => b x o (a x o h n)
theorem Kp.pre {M : List Addr} {H H1 H2 : Hp} (a : Ex H H1) (b : Kp M H1 H2) : Kp M H H2 := fun x o h n => b x o (a x o h) n
/-- a change at a place that H does not know -/
theorem Kp.mut {M : List Addr} {H H1 H2 : Hp} {D : Addr} (a : Kp M H H1) (hD : H D = none) (b : ∀ x o, x ≠ D → H1 x = some o → H2 x = some o) : Kp M H H2 := fun x o h n => b x o (ne_of_none h hD) (a x o h n)
theorem Ex.mut {H H1 H2 : Hp} {D : Addr} (a : Ex H H1) (hD : H D = none) (b : ∀ x o, x ≠ D → H1 x = some o → H2 x = some o) : Ex H H2 := fun x o h => b x o (ne_of_none h hD) (a x o h)
theorem Kp.nil {H H' : Hp} (k : Kp [] H H') : Ex H H' := fun a o h => k a o h (by simp)
theorem Ex.kp {H H' : Hp} (k : Ex H H') : Kp [] H H' := Kp.of k
theorem Ex.fresh {H H' : Hp} (e : Ex H H') {l : Addr} (h : H' l = none) : H l = none := Same.free e h
theorem Ex.sqL {K : PySem.W.Frag} {H H' : Hp} {a : Addr} {xs : List V} (e : Ex H H') (h : SqL K H a xs) : SqL K H' a xs := Same.seq e h
theorem Ex.sqT {K : PySem.W.Frag} {H H' : Hp} {a : Addr} {xs : List V} (e : Ex H H') (h : SqT K H a xs) : SqT K H' a xs := by
  rcases h with (h | ⟨o, h⟩) | h
  · exact .inl (.inl (e _ _ h))
  · exact .inl (.inr ⟨o, e _ _ h⟩)
  · exact .inr h

/-! ### data -/
/-- d stands at v; its lists are none of those that change -/
inductive Dv (M : List Addr) (H : Hp) : V → PyData → Prop
  | non : Dv M H .non .none
  | bl (b : Bool) : Dv M H (.bl b) (.bool b)
  | int (i : Int) : Dv M H (.int i) (.int i)
  | str (x : Str) : Dv M H (.str x) (.str x)
  | lst {a : Addr} {xs : List V} {ds : List PyData} (h : H a = some (.lst xs)) (n : a ∉ M) (l : xs.length = ds.length) (t : ∀ (i : Nat) (v : V) (d : PyData), xs[i]? = some v → ds[i]? = some d → Dv M H v d) : Dv M H (.ref a) (.list ds)
  | tup {a : Addr} {xs : List V} {ds : List PyData} (h : H a = some (.tup xs)) (l : xs.length = ds.length) (t : ∀ (i : Nat) (v : V) (d : PyData), xs[i]? = some v → ds[i]? = some d → Dv M H v d) : Dv M H (.ref a) (.tuple ds)
/-- tuples of H stay, lists but those of M stay -/
def Kd (M : List Addr) (H H' : Hp) : Prop := (∀ a xs, H a = some (.tup xs) → H' a = some (.tup xs)) ∧ ∀ a xs, H a = some (.lst xs) → a ∉ M → H' a = some (.lst xs)
theorem Kd.of_ex {M : List Addr} {H H' : Hp} (e : Ex H H') : Kd M H H' := ⟨fun a xs h => e a _ h, fun a xs h _ => e a _ h⟩
theorem Dv.keep {M : List Addr} {H H' : Hp} (k : Kd M H H') {v : V} {d : PyData} (h : Dv M H v d) : Dv M H' v d := by
  induction h with
  | non => exact .non
  | bl b => exact .bl b
  | int i => exact .int i
  | str x => exact .str x
  | lst h n l t ih => exact .lst (k.2 _ _ h n) n l ih
  | tup h l t ih => exact .tup (k.1 _ _ h) l ih
theorem Dv.ex {M : List Addr} {H H' : Hp} (e : Ex H H') {v : V} {d : PyData} (h : Dv M H v d) : Dv M H' v d := h.keep (Kd.of_ex e)
theorem Dv.weak {M M' : List Addr} {H : Hp} {v : V} {d : PyData} (h : Dv M H v d) (s : ∀ a, a ∈ M' → a ∈ M) : Dv M' H v d := by
  induction h with
  | non => exact .non
  | bl b => exact .bl b
  | int i => exact .int i
  | str x => exact .str x
  | lst h n l t ih => exact .lst h (fun z => n (s _ z)) l ih
  | tup h l t ih => exact .tup h l ih
theorem dpAll_of {K : PySem.W.Frag} {H : Hp} : ∀ {xs : List V} {ds : List PyData}, xs.length = ds.length → (∀ (i : Nat) (v : V) (d : PyData), xs[i]? = some v → ds[i]? = some d → Dp K H v d) → DpAll K H xs ds
  | [], [], _, _ => .nil
  | [], _ :: _, h, _ => by simp at h
  | _ :: _, [], h, _ => by simp at h
  | x :: xs, d :: ds, h, t => .cons (t 0 x d rfl rfl) (dpAll_of (by simpa using h) fun i v d h1 h2 => t (i + 1) v d (by simpa using h1) (by simpa using h2))
theorem Dv.dp {K : PySem.W.Frag} {M : List Addr} {H : Hp} {v : V} {d : PyData} (h : Dv M H v d) : Dp K H v d := by
  induction h with
  | non => exact .non
  | bl b => exact .bl b
  | int i => exact .int i
  | str x => exact .str x
  | lst h n l t ih => exact .lst (.of h) (dpAll_of l ih)
  | tup h l t ih => exact .tup (.of h) (dpAll_of l ih)
end BkG
end
section
namespace BkG
open PySem PySem.Spec L2
/-! ### readings, one step a lemma -/
section
variable {K : PySem.W.Frag} {σ : St} {H : Hp} {Q : VK} {QB : Bool → Hp → Prop} {QA : List V → Hp → Prop} {i : Nat} {v x y : V} {ta tb tc te : TE} {t u : TT} {a tr : TA} {r r' : R2} {b : Bool}
theorem w_var (h : σ[i]? = some (some v)) (q : Q v H) : tVar i σ H Q := ⟨v, h, q⟩
theorem w_c (q : Q v H) : tC v σ H Q := q
theorem w_op (h : ta σ H fun x H1 => tb σ H1 fun y H2 => r x y H2 Q) : tOp r ta tb σ H Q := h
theorem w_un {r : V → Hp → VK → Prop} (h : ta σ H fun x H1 => r x H1 Q) : tUn r ta σ H Q := h
theorem w_nil (q : QA [] H) : tNil σ H QA := q
theorem w_cons (h : ta σ H fun x H1 => tr σ H1 fun xs H2 => QA (x :: xs) H2) : tCons ta tr σ H QA := h
theorem w_cb {r : List V → Hp → VK → Prop} (h : a σ H fun vs H1 => r vs H1 Q) : tCB r a σ H Q := h
theorem w_call {sp : Sp} {dvs : List V} {E : XK} (h : a σ H fun vs H1 => sp (vs ++ dvs) H1 Q E) : tCall sp dvs E a σ H Q := h
theorem w_bm {T : String} {r : V → List V → Hp → VK → Prop} (h : te σ H fun x H1 => tyV K T x H1 ∧ a σ H1 fun xs H2 => r x xs H2 Q) : tBM K T r te a σ H Q := h
theorem w_bm0 {T : String} {r : V → List V → Hp → VK → Prop} (h : te σ H fun x H1 => tyV K T x H1 ∧ r x [] H1 Q) : tBM0 K T r te σ H Q := h
/-- a new tuple, a new list -/
def aTup (Q : VK) : List V → Hp → Prop := fun xs H1 => xs.length ≤ sizeLine ∧ ∀ p, H1 p = none → Q (.ref p) (upd H1 p (.tup xs))
def aLst (Q : VK) : List V → Hp → Prop := fun xs H1 => xs.length ≤ sizeLine ∧ ∀ p, H1 p = none → Q (.ref p) (upd H1 p (.lst xs))
theorem w_tup (h : a σ H (aTup Q)) : tTup a σ H Q := h
theorem w_lst (h : a σ H (aLst Q)) : tLst a σ H Q := h
theorem sz_of {n : Nat} (h : n ≤ 100000) : n ≤ sizeLine := Nat.le_trans h (by decide)
theorem sz_lt {n : Nat} (h : n < 100000) : n < sizeLine := Nat.lt_of_lt_of_le h (by decide)
theorem a_tup {vs : List V} (hl : vs.length ≤ 100000) (q : ∀ p H2, H p = none → Ex H H2 → H2 p = some (.tup vs) → Q (.ref p) H2) : aTup Q vs H := ⟨sz_of hl, fun p hp => q p _ hp (Ex.new hp) upd_same⟩
theorem a_lst {vs : List V} (hl : vs.length ≤ 100000) (q : ∀ p H2, H p = none → Ex H H2 → H2 p = some (.lst vs) → Q (.ref p) H2) : aLst Q vs H := ⟨sz_of hl, fun p hp => q p _ hp (Ex.new hp) upd_same⟩
/-! operators by values -/
theorem r_I0 {g : Int → Int → V} {i j : Int} (q : Q (g i j) H) : rI0 g (.int i) (.int j) H Q := ⟨i, j, rfl, rfl, q⟩
theorem r_I {C : Int → Int → Prop} {g : Int → Int → V} {i j : Int} (hc : C i j) (q : Q (g i j) H) : rI C g (.int i) (.int j) H Q := ⟨i, j, rfl, rfl, hc, q⟩
theorem r_U {g : Int → V} {i : Int} (q : Q (g i) H) : rU g (.int i) H Q := ⟨i, rfl, q⟩
theorem r_eqI {i j : Int} (q : Q (.bl (decide (i = j))) H) : rEq (.int i) (.int j) H Q := ⟨rfl, by rw [show decide (V.int i = V.int j) = decide (i = j) by by_cases h : i = j <;> simp [h]]; exact q⟩
theorem r_neI {i j : Int} (q : Q (.bl (!decide (i = j))) H) : rNe (.int i) (.int j) H Q := ⟨rfl, by rw [show decide (V.int i = V.int j) = decide (i = j) by by_cases h : i = j <;> simp [h]]; exact q⟩
theorem r_eqS {i j : Str} (q : Q (.bl (decide (i = j))) H) : rEq (.str i) (.str j) H Q := ⟨rfl, by rw [show decide (V.str i = V.str j) = decide (i = j) by by_cases h : i = j <;> simp [h]]; exact q⟩
theorem r_neS {i j : Str} (q : Q (.bl (!decide (i = j))) H) : rNe (.str i) (.str j) H Q := ⟨rfl, by rw [show decide (V.str i = V.str j) = decide (i = j) by by_cases h : i = j <;> simp [h]]; exact q⟩
theorem r_eqB {i j : Bool} (q : Q (.bl (decide (i = j))) H) : rEq (.bl i) (.bl j) H Q := ⟨rfl, by rw [show decide (V.bl i = V.bl j) = decide (i = j) by by_cases h : i = j <;> simp [h]]; exact q⟩
theorem r_neB {i j : Bool} (q : Q (.bl (!decide (i = j))) H) : rNe (.bl i) (.bl j) H Q := ⟨rfl, by rw [show decide (V.bl i = V.bl j) = decide (i = j) by by_cases h : i = j <;> simp [h]]; exact q⟩
theorem r_ixL {p : Addr} {xs : List V} {i : Int} (h : SqL K H p xs) (e : atI xs i = some v) (q : Q v H) : rIxL K (.ref p) (.int i) H Q := ⟨p, xs, i, v, rfl, rfl, h, e, q⟩
theorem r_ixT {p : Addr} {xs : List V} {i : Int} (h : SqT K H p xs) (e : atI xs i = some v) (q : Q v H) : rIxT K (.ref p) (.int i) H Q := ⟨p, xs, i, v, rfl, rfl, h, e, q⟩
theorem r_setL {p : Addr} {xs : List V} {k : Int} {j : Nat} {QH : Hp → Prop} (h : H p = some (.lst xs)) (e : ixN xs.length k = some j) (q : ∀ H2, Kp [p] H H2 → H2 p = some (.lst (xs.set j v)) → QH H2) : rSetL (.ref p) (.int k) v H QH :=
  ⟨p, xs, k, j, rfl, rfl, h, e, q _ (fun a o ha n => by rw [upd_ne (by simpa using n)]; exact ha) upd_same⟩
theorem r_append {p : Addr} {xs : List V} (h : H p = some (.lst xs)) (hz : xs.length < 100000) (q : ∀ H2, Kp [p] H H2 → H2 p = some (.lst (xs ++ [v])) → Q .non H2) : rAppend (.ref p) [v] H Q :=
  ⟨p, xs, v, rfl, rfl, h, sz_lt hz, q _ (fun a o ha n => by rw [upd_ne (by simpa using n)]; exact ha) upd_same⟩
theorem r_pop {p : Addr} {xs : List V} {y : V} (h : H p = some (.lst xs)) (e : xs[xs.length - 1]? = some y) (q : ∀ H2, Kp [p] H H2 → H2 p = some (.lst xs.dropLast) → Q y H2) : rPop (.ref p) [] H Q :=
  ⟨p, xs, y, rfl, rfl, h, e, q _ (fun a o ha n => by rw [upd_ne (by simpa using n)]; exact ha) upd_same⟩
theorem ty_list {p : Addr} {xs : List V} (h : H p = some (.lst xs)) : tyV K "list" (.ref p) H := .inl ⟨rfl, _, .inl (.inl h)⟩
theorem r_len {p : Addr} {xs : List V} {n : Nat} (h : SqL K H p xs ∨ SqT K H p xs) (e : xs.length = n) (q : Q (.int n) H) : rLen K [.ref p] H Q := by
  subst e
  rcases h with h | h
  · exact ⟨_, _, rfl, .inl ⟨xs, h, rfl⟩, q⟩
  · exact ⟨_, _, rfl, .inr ⟨xs, h, rfl⟩, q⟩
theorem r_lenS {z : Str} (h : z.length ≤ sizeLine) (q : Q (.int z.length) H) : rLen K [.str z] H Q := ⟨_, _, rfl, ⟨h, rfl⟩, q⟩
theorem r_eqD {d e : PyData} (h1 : Dp K H x d) (h2 : Dp K H y e) (s1 : SeqAt.shaped d = true) (s2 : SeqAt.shaped e = true) (q : Q (.bl (PyData.eqv d e)) H) : rEqD K x y H Q := ⟨d, e, h1, h2, s1, s2, q⟩
theorem r_neD {d e : PyData} (h1 : Dp K H x d) (h2 : Dp K H y e) (s1 : SeqAt.shaped d = true) (s2 : SeqAt.shaped e = true) (q : Q (.bl (!PyData.eqv d e)) H) : rNeD K x y H Q := ⟨d, e, h1, h2, s1, s2, q⟩
theorem r_cat {p q' : Addr} {xs zs : List V} (h : H p = some (.lst xs)) (h' : H q' = some (.lst zs)) (hz : xs.length + zs.length ≤ 100000) (q : ∀ l H2, H l = none → Ex H H2 → H2 l = some (.lst (xs ++ zs)) → Q (.ref l) H2) : rCat (.ref p) (.ref q') H Q :=
  ⟨p, q', xs, zs, rfl, rfl, h, h', sz_of hz, fun l hl => q l _ hl (Ex.new hl) upd_same⟩
theorem r_slL {p : Addr} {xs : List V} {lo hi : Option Int} (h : SqL K H p xs) (q : ∀ l H2, H l = none → Ex H H2 → H2 l = some (.lst (cutV xs lo hi)) → Q (.ref l) H2) : rSlL K (.ref p) lo hi H Q :=
  ⟨p, xs, rfl, h, fun l hl => q l _ hl (Ex.new hl) upd_same⟩
/-- len of anything with a length, by name -/
def rAbs : List V → Hp → VK → Prop := fun xs H Q => ∃ i, xs = [.int i] ∧ Q (.int (if i < 0 then -i else i)) H
def rInt1 : List V → Hp → VK → Prop := fun xs H Q => (∃ i, xs = [.int i] ∧ Q (.int i) H) ∨ ∃ k, xs = [.bl k] ∧ Q (.int (if k then 1 else 0)) H
theorem cr_abs {X : Cx} : CallR X (.builtin "abs") rAbs := call_abs
theorem cr_int {X : Cx} : CallR X (.type "int") rInt1 := call_int1
theorem cr_len {X : Cx} : CallR X (.builtin "len") (rLen X.K) := call_len
theorem r_abs {i : Int} (q : Q (.int (i.natAbs : Int)) H) : rAbs [.int i] H Q := ⟨i, rfl, by
  have e : (if i < 0 then -i else i) = (i.natAbs : Int) := by split <;> omega
  rw [e]; exact q⟩
theorem r_int {i : Int} (q : Q (.int i) H) : rInt1 [.int i] H Q := .inl ⟨i, rfl, q⟩
theorem r_intB {k : Bool} (q : Q (.int (if k then 1 else 0)) H) : rInt1 [.bl k] H Q := .inr ⟨k, rfl, q⟩
/-! parts of a slice, xs[::-1] -/
theorem w_sl {r : V → Option Int → Option Int → Hp → VK → Prop} {tl th : TO} (h : te σ H fun x H1 => tl σ H1 fun l H2 => th σ H2 fun u H3 => r x l u H3 Q) : tSl r te tl th σ H Q := h
theorem w_nop {QO : Option Int → Hp → Prop} (q : QO none H) : tNoPart σ H QO := q
def kPart (QO : Option Int → Hp → Prop) : VK := fun x H1 => ∃ i, x = .int i ∧ QO (some i) H1
theorem w_part {QO : Option Int → Hp → Prop} (h : te σ H (kPart QO)) : tPart te σ H QO := h
theorem k_part {QO : Option Int → Hp → Prop} {i : Int} (q : QO (some i) H) : kPart QO (.int i) H := ⟨i, rfl, q⟩
def kRevL (K : PySem.W.Frag) (Q : VK) : VK := fun x H1 => ∃ a xs, x = .ref a ∧ SqL K H1 a xs ∧ ∀ p, H1 p = none → Q (.ref p) (upd H1 p (.lst xs.reverse))
theorem w_revL (h : te σ H (kRevL K Q)) : tRevL K te σ H Q := h
theorem k_revL {p : Addr} {xs : List V} (h : SqL K H p xs) (q : ∀ l H2, H l = none → Ex H H2 → H2 l = some (.lst xs.reverse) → Q (.ref l) H2) : kRevL K Q (.ref p) H := ⟨p, xs, rfl, h, fun l hl => q l _ hl (Ex.new hl) upd_same⟩
/-! tests -/
def kB (QB : Bool → Hp → Prop) : VK := fun x H1 => ∃ c, x = .bl c ∧ QB c H1
theorem w_test (h : te σ H (kB QB)) : tTest te σ H QB := h
theorem w_B (h : te σ H (kB QB)) : tB te σ H QB := h
theorem k_B (q : QB b H) : kB QB (.bl b) H := ⟨b, rfl, q⟩
theorem w_and (h : t σ H fun c H1 => if c = true then u σ H1 QB else QB false H1) : tAnd t u σ H QB := h
theorem w_or (h : t σ H fun c H1 => if c = true then QB true H1 else u σ H1 QB) : tOr t u σ H QB := h
theorem w_not (h : t σ H fun c H1 => QB (!c) H1) : tNot t σ H QB := h
theorem w_yes (q : QB true H) : tYes σ H QB := q
def kAndV (tb : TE) (σ : St) (Q : VK) : VK := fun x H1 => ∃ c, x = .bl c ∧ if c = true then tb σ H1 Q else Q (.bl false) H1
def kOrV (tb : TE) (σ : St) (Q : VK) : VK := fun x H1 => ∃ c, x = .bl c ∧ if c = true then Q (.bl true) H1 else tb σ H1 Q
def kNotV (Q : VK) : VK := fun x H1 => ∃ c, x = .bl c ∧ Q (.bl (!c)) H1
theorem w_andV (h : ta σ H (kAndV tb σ Q)) : tAndV ta tb σ H Q := h
theorem w_orV (h : ta σ H (kOrV tb σ Q)) : tOrV ta tb σ H Q := h
theorem w_notV (h : ta σ H (kNotV Q)) : tNotV ta σ H Q := h
theorem k_andV (q : if b = true then tb σ H Q else Q (.bl false) H) : kAndV tb σ Q (.bl b) H := ⟨b, rfl, q⟩
theorem k_orV (q : if b = true then Q (.bl true) H else tb σ H Q) : kOrV tb σ Q (.bl b) H := ⟨b, rfl, q⟩
theorem k_notV (q : Q (.bl (!b)) H) : kNotV Q (.bl b) H := ⟨b, rfl, q⟩
theorem w_if (h : t σ H fun c H1 => if c = true then ta σ H1 Q else tb σ H1 Q) : tIf t ta tb σ H Q := h
theorem w_chain (h : ta σ H fun x H1 => tb σ H1 fun y H2 => r x y H2 fun z H3 => ∃ k, z = .bl k ∧ (if k = true then tc σ H3 fun w' H4 => r' y w' H4 Q else Q (.bl false) H3)) : tChain r r' ta tb tc σ H Q := h
theorem ex_bl {k : Bool} {A : Bool → Prop} (h : A k) : ∃ k', V.bl k = .bl k' ∧ A k' := ⟨k, rfl, h⟩
theorem w_isN (h : ta σ H fun x H1 => Q (.bl (decide (x = .non))) H1) : tIsN ta σ H Q := h
theorem w_notN (h : ta σ H fun x H1 => Q (.bl (!decide (x = .non))) H1) : tNotN ta σ H Q := h
end
theorem if_pos' {A B : Prop} (h : A) : if true = true then A else B := by rw [if_pos rfl]; exact h
theorem if_neg' {A B : Prop} (h : B) : if false = true then A else B := by rw [if_neg Bool.false_ne_true]; exact h
theorem if_by {b : Bool} {A B : Prop} (h1 : b = true → A) (h2 : b = false → B) : if b = true then A else B := by
  cases b with
  | true => exact if_pos' (h1 rfl)
  | false => exact if_neg' (h2 rfl)
/-! ### statements -/
section
variable {K : PySem.W.Frag} {σ : St} {H : Hp} {i : Nat} {v : V} {te : TE} {c : TT} {t u z : TS} {f bk ct : St → Hp → Prop} {rt : VK} {g : TG}
theorem w_seq (h : t ⟨u ⟨f, rt, bk, ct⟩, rt, bk, ct⟩ σ H) : tSeq t u ⟨f, rt, bk, ct⟩ σ H := h
theorem w_set (h : te σ H fun x H1 => f (σ.set i (some x)) H1) : tAsg te (gName i) ⟨f, rt, bk, ct⟩ σ H := h
theorem w_asg (h : te σ H fun x H1 => g x σ H1 f) : tAsg te g ⟨f, rt, bk, ct⟩ σ H := h
theorem w_drop (h : te σ H fun _ H1 => f σ H1) : tDrop te ⟨f, rt, bk, ct⟩ σ H := h
theorem w_ret (h : te σ H rt) : tRet te ⟨f, rt, bk, ct⟩ σ H := h
theorem w_retN (h : rt .non H) : tRetN ⟨f, rt, bk, ct⟩ σ H := h
theorem w_next (h : f σ H) : tNext ⟨f, rt, bk, ct⟩ σ H := h
theorem w_brk (h : bk σ H) : tBreak ⟨f, rt, bk, ct⟩ σ H := h
theorem w_cont (h : ct σ H) : tCont ⟨f, rt, bk, ct⟩ σ H := h
theorem w_ifS (h : c σ H fun b H1 => if b = true then t ⟨f, rt, bk, ct⟩ σ H1 else u ⟨f, rt, bk, ct⟩ σ H1) : tIfS c t u ⟨f, rt, bk, ct⟩ σ H := h
theorem w_aug {ti : TIp} (h : σ[i]? = some (some v)) (q : te σ H fun y H1 => ti v y H1 fun z H2 => f (σ.set i (some z)) H2) : tAug i te ti ⟨f, rt, bk, ct⟩ σ H := ⟨v, h, q⟩
theorem i_I {fn : Int → Int → Int} {a b : Int} {Q : VK} (q : Q (.int (fn a b)) H) : ipI fn (.int a) (.int b) H Q := ⟨a, b, rfl, rfl, q⟩
theorem w_gname {QS : St → Hp → Prop} (q : QS (σ.set i (some v)) H) : gName i v σ H QS := q
theorem w_gsub {to ti : TE} {ts : TSet} {QS : St → Hp → Prop} (h : to σ H fun o H1 => ti σ H1 fun i H2 => ts o i v H2 fun H3 => QS σ H3) : gSub to ti ts v σ H QS := h
theorem w_gtup {n : Nat} {tg : TGs} {p : Addr} {xs : List V} {QS : St → Hp → Prop} (h : SqT K H p xs) (e : xs.length = n) (q : tg xs σ H QS) : gTup K n tg (.ref p) σ H QS := ⟨p, xs, rfl, h, e, q⟩
theorem w_gnil {QS : St → Hp → Prop} (q : QS σ H) : gNil [] σ H QS := ⟨rfl, q⟩
theorem w_gcons {tg : TG} {us : TGs} {vs : List V} {QS : St → Hp → Prop} (q : tg v σ H fun σ' H' => us vs σ' H' QS) : gCons tg us (v :: vs) σ H QS := ⟨v, vs, rfl, q⟩
theorem w_par {i j : Nat} {ta : TA} (h : ta σ H fun vs H1 => ∃ v w, vs = [v, w] ∧ f ((σ.set i (some v)).set j (some w)) H1) : tPar i j ta ⟨f, rt, bk, ct⟩ σ H := h
theorem par_ok {i j : Nat} {x y : V} {F : St → Hp → Prop} (q : F ((σ.set i (some x)).set j (some y)) H) : ∃ v w, [x, y] = [v, w] ∧ F ((σ.set i (some v)).set j (some w)) H := ⟨x, y, rfl, q⟩
theorem par_ok3 {i j l : Nat} {x y z : V} {F : St → Hp → Prop} (q : F (((σ.set i (some x)).set j (some y)).set l (some z)) H) : ∃ u v w, [x, y, z] = [u, v, w] ∧ F (((σ.set i (some u)).set j (some v)).set l (some w)) H := ⟨x, y, z, rfl, q⟩
theorem w_par3 {i j l : Nat} {ta : TA} (h : ta σ H fun vs H1 => ∃ u v w, vs = [u, v, w] ∧ f (((σ.set i (some u)).set j (some v)).set l (some w)) H1) : tPar3 i j l ta ⟨f, rt, bk, ct⟩ σ H := h
/-- what follows, shown once -/
theorem w_cut (Post : St → Hp → Prop) (out : ∀ σ' H', Post σ' H' → f σ' H') (h : ∀ f' : St → Hp → Prop, (∀ σ' H', Post σ' H' → f' σ' H') → t ⟨f', rt, bk, ct⟩ σ H) : t ⟨f, rt, bk, ct⟩ σ H := h f out
/-! ### loops: what the walk over a value asks, and how it is shown by an invariant -/
def kFor (J : Addr → It) (S : Addr → Hp → Prop) (g : TG) (tb : TS) (D : Ends) (σ : St) : VK := fun x H1 => ∃ a, x = .ref a ∧ S a H1 ∧ ∃ W : Nat → Nat → St → Hp → Prop, (∃ m, W 0 m σ H1) ∧ ∀ i m σ H, W i m σ H →
  ((J a).stop i H ∧ D.nx σ H) ∨ ((J a).go i H ∧ ∃ N : St → Hp → Prop, (∀ σ' H', N σ' H' → ∃ m', m' < m ∧ W (i + 1) m' σ' H') ∧ ∀ x H', (J a).yld i H x H' → g x σ H' fun σ2 H2 => tb { D with nx := N, ct := N, bk := D.nx } σ2 H2)
theorem w_forL (h : te σ H (kFor (Itl K) (fun a H1 => ∃ xs, SqL K H1 a xs) g t ⟨f, rt, bk, ct⟩ σ)) : tFor (iList K te) g t ⟨f, rt, bk, ct⟩ σ H := h
theorem w_forT (h : te σ H (kFor (Itt K) (fun a H1 => ∃ xs, SqT K H1 a xs) g t ⟨f, rt, bk, ct⟩ σ)) : tFor (iTup K te) g t ⟨f, rt, bk, ct⟩ σ H := h
theorem k_forL {a : Addr} {xs : List V} (h : SqL K H a xs) (Pv : Nat → St → Hp → Prop) (h0 : Pv 0 σ H) (hl : ∀ i σ' H', i ≤ xs.length → Pv i σ' H' → SqL K H' a xs)
    (hs : ∀ i x σ' H', xs[i]? = some x → Pv i σ' H' → g x σ' H' fun σ2 H2 => t ⟨Pv (i + 1), rt, f, Pv (i + 1)⟩ σ2 H2) (hd : ∀ σ' H', Pv xs.length σ' H' → f σ' H') :
    kFor (Itl K) (fun a H1 => ∃ xs, SqL K H1 a xs) g t ⟨f, rt, bk, ct⟩ σ (.ref a) H := ⟨a, rfl, ⟨xs, h⟩, for_list (D := ⟨f, rt, bk, ct⟩) Pv h0 hl hs hd⟩
theorem k_forT {a : Addr} {xs : List V} (h : SqT K H a xs) (Pv : Nat → St → Hp → Prop) (h0 : Pv 0 σ H) (hl : ∀ i σ' H', i ≤ xs.length → Pv i σ' H' → SqT K H' a xs)
    (hs : ∀ i x σ' H', xs[i]? = some x → Pv i σ' H' → g x σ' H' fun σ2 H2 => t ⟨Pv (i + 1), rt, f, Pv (i + 1)⟩ σ2 H2) (hd : ∀ σ' H', Pv xs.length σ' H' → f σ' H') :
    kFor (Itt K) (fun a H1 => ∃ xs, SqT K H1 a xs) g t ⟨f, rt, bk, ct⟩ σ (.ref a) H := ⟨a, rfl, ⟨xs, h⟩, for_tup (D := ⟨f, rt, bk, ct⟩) Pv h0 hl hs hd⟩
/-- range(n), range(a, b) -/
def aRng1 (g : TG) (tb : TS) (D : Ends) (σ : St) : List V → Hp → Prop := fun vs H1 => ∃ j : Int, vs = [.int j] ∧ -(2 ^ 62) ≤ j ∧ j < 2 ^ 62 ∧ ∃ W : Nat → Nat → St → Hp → Prop, (∃ m, W 0 m σ H1) ∧ ∀ i m σ H, W i m σ H →
  ((Itr 0 j.toNat).stop i H ∧ D.nx σ H) ∨ ((Itr 0 j.toNat).go i H ∧ ∃ N : St → Hp → Prop, (∀ σ' H', N σ' H' → ∃ m', m' < m ∧ W (i + 1) m' σ' H') ∧ ∀ x H', (Itr 0 j.toNat).yld i H x H' → g x σ H' fun σ2 H2 => tb { D with nx := N, ct := N, bk := D.nx } σ2 H2)
theorem w_forR1 {a : TA} (h : a σ H (aRng1 g t ⟨f, rt, bk, ct⟩ σ)) : tFor (iRng1 a) g t ⟨f, rt, bk, ct⟩ σ H := h
theorem a_rng1 {n : Nat} {j : Int} (e : j = (n : Int)) (hn : n ≤ 100000000) (Pv : Nat → St → Hp → Prop) (h0 : Pv 0 σ H)
    (hs : ∀ (i : Nat) σ' H', i < n → Pv i σ' H' → g (.int (i : Int)) σ' H' fun σ2 H2 => t ⟨Pv (i + 1), rt, f, Pv (i + 1)⟩ σ2 H2) (hd : ∀ σ' H', Pv n σ' H' → f σ' H') : aRng1 g t ⟨f, rt, bk, ct⟩ σ [.int j] H := by
  subst e
  refine ⟨_, rfl, by omega, by omega, ?_⟩
  rw [Int.toNat_natCast]
  refine for_range (D := ⟨f, rt, bk, ct⟩) (lo := 0) (n := n) Pv h0 (fun i σ' H' hi p => ?_) hd
  have q := hs i σ' H' hi p
  rw [Int.zero_add]
  exact q
/-- enumerate(a list) -/
def aEnum (K : PySem.W.Frag) (g : TG) (tb : TS) (D : Ends) (σ : St) : List V → Hp → Prop := fun vs H1 => ∃ a xs, vs = [.ref a] ∧ SqL K H1 a xs ∧ ∃ W : Nat → Nat → St → Hp → Prop, (∃ m, W 0 m σ H1) ∧ ∀ i m σ H, W i m σ H →
  ((Ite K a).stop i H ∧ D.nx σ H) ∨ ((Ite K a).go i H ∧ ∃ N : St → Hp → Prop, (∀ σ' H', N σ' H' → ∃ m', m' < m ∧ W (i + 1) m' σ' H') ∧ ∀ x H', (Ite K a).yld i H x H' → g x σ H' fun σ2 H2 => tb { D with nx := N, ct := N, bk := D.nx } σ2 H2)
theorem w_forE {a : TA} (h : a σ H (aEnum K g t ⟨f, rt, bk, ct⟩ σ)) : tFor (iEnum K a) g t ⟨f, rt, bk, ct⟩ σ H := h
theorem a_enum {a : Addr} {xs : List V} (h : SqL K H a xs) (Pv : Nat → St → Hp → Prop) (h0 : Pv 0 σ H) (hl : ∀ i σ' H', i ≤ xs.length → Pv i σ' H' → SqL K H' a xs)
    (hs : ∀ i x σ' H' T H2, xs[i]? = some x → Pv i σ' H' → H' T = none → Ex H' H2 → H2 T = some (.tup [.int (i : Int), x]) → g (.ref T) σ' H2 fun σ2 H2 => t ⟨Pv (i + 1), rt, f, Pv (i + 1)⟩ σ2 H2) (hd : ∀ σ' H', Pv xs.length σ' H' → f σ' H') :
    aEnum K g t ⟨f, rt, bk, ct⟩ σ [.ref a] H := by
  refine ⟨a, xs, rfl, h, fun i m σ H => m = xs.length - i ∧ i ≤ xs.length ∧ Pv i σ H, ⟨xs.length, by simp, Nat.zero_le _, h0⟩, ?_⟩
  rintro i m σ H ⟨rfl, hi, p⟩
  have q := hl i σ H hi p
  by_cases hlt : i < xs.length
  · have hx : xs[i]? = some xs[i] := List.getElem?_eq_getElem hlt
    refine .inr ⟨⟨xs, _, q, hx⟩, Pv (i + 1), fun σ' H' p' => ⟨xs.length - (i + 1), by omega, rfl, hlt, p'⟩, fun v H' y => ?_⟩
    obtain ⟨T, x', rfl, hT, rfl, f1⟩ := y
    exact hs i x' σ H T _ (f1 xs q) p hT (Ex.new hT) upd_same
  · have e : i = xs.length := by omega
    subst e
    exact .inl ⟨⟨xs, q, Nat.le_refl _⟩, hd σ H p⟩
/-- while: an invariant, a number that falls -/
def kWh (Pv : Nat → St → Hp → Prop) (m : Nat) (tb : TS) (D : Ends) (σ : St) : Bool → Hp → Prop := fun b H1 => if b = true then ∃ N : St → Hp → Prop, (∀ σ' H', N σ' H' → ∃ m', m' < m ∧ Pv m' σ' H') ∧ tb { D with nx := N, ct := N, bk := D.nx } σ H1 else D.nx σ H1
theorem w_while (Pv : Nat → St → Hp → Prop) (m0 : Nat) (h0 : Pv m0 σ H) (hs : ∀ m σ' H', Pv m σ' H' → c σ' H' (kWh Pv m t ⟨f, rt, bk, ct⟩ σ')) : tWhile c t ⟨f, rt, bk, ct⟩ σ H := ⟨Pv, ⟨m0, h0⟩, hs⟩
theorem k_wh {Pv : Nat → St → Hp → Prop} {m : Nat} {b : Bool} (h1 : b = true → t ⟨fun σ2 H2 => ∃ m', m' < m ∧ Pv m' σ2 H2, rt, f, fun σ2 H2 => ∃ m', m' < m ∧ Pv m' σ2 H2⟩ σ H) (h2 : b = false → f σ H) : kWh Pv m t ⟨f, rt, bk, ct⟩ σ b H := by
  unfold kWh
  cases b with
  | true => rw [if_pos rfl]; exact ⟨_, fun _ _ h => h, h1 rfl⟩
  | false => rw [if_neg Bool.false_ne_true]; exact h2 rfl
end
/-! ### comprehensions: the list made so far, what is known with it -/
section
variable {K : PySem.W.Frag} {σ : St} {H : Hp} {v : V} {tl te : TE} {tt : TT} {g : TG} {vs : List Nat} {Q : VK}
/-- what a comprehension asks of what it walks -/
def LcW (J : It) (g : TG) (tt : TT) (te : TE) (vs : List Nat) (σ : St) (Q : VK) (H1 : Hp) : Prop := ∀ D, H1 D = none → ∃ W : Nat → Nat → Hp → Prop, (∃ m, W 0 m (upd H1 D (.lst []))) ∧ ∀ i m H, W i m H →
  (J.stop i H ∧ Q (.ref D) H) ∨ (J.go i H ∧ ∃ Nx : Hp → Prop, (∀ H', Nx H' → ∃ m', m' < m ∧ W (i + 1) m' H') ∧ ∀ x H', J.yld i H x H' → g x (wipe σ vs) H' fun σ2 H2 => wipe σ2 vs = wipe σ vs ∧ tt σ2 H2 fun b H3 =>
    if b = true then te σ2 H3 fun y H4 => ∃ acc, H4 D = some (.lst acc) ∧ acc.length < sizeLine ∧ Nx (upd H4 D (.lst (acc ++ [y]))) else Nx H3)
/-- at turn i: the list made so far, at D, and what is known with it -/
def Pc (P : Nat → List V → Addr → Hp → Prop) (D : Addr) (i : Nat) (H' : Hp) : Prop := ∃ acc, acc.length ≤ i ∧ H' D = some (.lst acc) ∧ P i acc D H'
def kLc (P : Nat → List V → Addr → Hp → Prop) (D : Addr) (i : Nat) : VK := fun y H4 => ∃ acc, H4 D = some (.lst acc) ∧ acc.length < sizeLine ∧ Pc P D (i + 1) (upd H4 D (.lst (acc ++ [y])))
/-- one turn's test and element, behind the target -/
def kTurn (tt : TT) (te : TE) (vs : List Nat) (P : Nat → List V → Addr → Hp → Prop) (D : Addr) (i : Nat) (σ : St) : St → Hp → Prop := fun σ2 H2 => wipe σ2 vs = wipe σ vs ∧ tt σ2 H2 fun b H3 => if b = true then te σ2 H3 (kLc P D i) else Pc P D (i + 1) H3
theorem k_turn {P : Nat → List V → Addr → Hp → Prop} {D : Addr} {i : Nat} {σ2 : St} (e : wipe σ2 vs = wipe σ vs) (q : tt σ2 H fun b H3 => if b = true then te σ2 H3 (kLc P D i) else Pc P D (i + 1) H3) : kTurn tt te vs P D i σ σ2 H := ⟨e, q⟩
theorem k_turn1 {P : Nat → List V → Addr → Hp → Prop} {D : Addr} {i : Nat} {σ2 : St} (e : wipe σ2 vs = wipe σ vs) (q : te σ2 H (kLc P D i)) : kTurn tYes te vs P D i σ σ2 H := ⟨e, by show (if true = true then te σ2 H (kLc P D i) else Pc P D (i + 1) H); rw [if_pos rfl]; exact q⟩
theorem k_lc {P : Nat → List V → Addr → Hp → Prop} {D : Addr} {i : Nat} {acc : List V} (h : H D = some (.lst acc)) (hl : acc.length ≤ i) (hi : i < 90000) (q : ∀ H5, H5 D = some (.lst (acc ++ [v])) → (∀ a o, a ≠ D → H a = some o → H5 a = some o) → P (i + 1) (acc ++ [v]) D H5) : kLc P D i v H :=
  ⟨acc, h, sz_lt (by omega), acc ++ [v], by simp; omega, upd_same, q _ upd_same fun a o n e => by rw [upd_ne n]; exact e⟩
theorem k_lcN {P : Nat → List V → Addr → Hp → Prop} {D : Addr} {i : Nat} {acc : List V} (h : H D = some (.lst acc)) (hl : acc.length ≤ i) (q : P (i + 1) acc D H) : Pc P D (i + 1) H := ⟨acc, by omega, h, q⟩
/-- over a list -/
theorem lcL {a : Addr} {xs : List V} (P : Nat → List V → Addr → Hp → Prop) (h0 : ∀ D H2, H D = none → Ex H H2 → H2 D = some (.lst []) → P 0 [] D H2) (hl : ∀ i acc D H', i ≤ xs.length → P i acc D H' → SqL K H' a xs)
    (hs : ∀ i x acc D H', xs[i]? = some x → acc.length ≤ i → H D = none → H' D = some (.lst acc) → P i acc D H' → g x (wipe σ vs) H' (kTurn tt te vs P D i σ))
    (hd : ∀ acc D H', acc.length ≤ xs.length → H D = none → H' D = some (.lst acc) → P xs.length acc D H' → Q (.ref D) H') : LcW (Itl K a) g tt te vs σ Q H := by
  intro D hD
  refine lc_list (xs := xs) (Pc P D) ⟨[], Nat.le_refl _, upd_same, h0 D _ hD (Ex.new hD) upd_same⟩ (fun i H' hi p => ?_) (fun i x H' hx p => ?_) (fun H' p => ?_)
  · obtain ⟨acc, _, _, p⟩ := p
    exact hl i acc D H' hi p
  · obtain ⟨acc, h1, h2, p⟩ := p
    exact hs i x acc D H' hx h1 hD h2 p
  · obtain ⟨acc, h1, h2, p⟩ := p
    exact hd acc D H' h1 hD h2 p
theorem lcT {a : Addr} {xs : List V} (P : Nat → List V → Addr → Hp → Prop) (h0 : ∀ D H2, H D = none → Ex H H2 → H2 D = some (.lst []) → P 0 [] D H2) (hl : ∀ i acc D H', i ≤ xs.length → P i acc D H' → SqT K H' a xs)
    (hs : ∀ i x acc D H', xs[i]? = some x → acc.length ≤ i → H D = none → H' D = some (.lst acc) → P i acc D H' → g x (wipe σ vs) H' (kTurn tt te vs P D i σ))
    (hd : ∀ acc D H', acc.length ≤ xs.length → H D = none → H' D = some (.lst acc) → P xs.length acc D H' → Q (.ref D) H') : LcW (Itt K a) g tt te vs σ Q H := by
  intro D hD
  refine lc_tup (xs := xs) (Pc P D) ⟨[], Nat.le_refl _, upd_same, h0 D _ hD (Ex.new hD) upd_same⟩ (fun i H' hi p => ?_) (fun i x H' hx p => ?_) (fun H' p => ?_)
  · obtain ⟨acc, _, _, p⟩ := p
    exact hl i acc D H' hi p
  · obtain ⟨acc, h1, h2, p⟩ := p
    exact hs i x acc D H' hx h1 hD h2 p
  · obtain ⟨acc, h1, h2, p⟩ := p
    exact hd acc D H' h1 hD h2 p
theorem lcR {n : Nat} (P : Nat → List V → Addr → Hp → Prop) (h0 : ∀ D H2, H D = none → Ex H H2 → H2 D = some (.lst []) → P 0 [] D H2)
    (hs : ∀ i acc D H', i < n → acc.length ≤ i → H D = none → H' D = some (.lst acc) → P i acc D H' → g (.int (i : Int)) (wipe σ vs) H' (kTurn tt te vs P D i σ))
    (hd : ∀ acc D H', acc.length ≤ n → H D = none → H' D = some (.lst acc) → P n acc D H' → Q (.ref D) H') : LcW (Itr 0 n) g tt te vs σ Q H := by
  intro D hD
  refine lc_range (n := n) (lo := 0) (Pc P D) ⟨[], Nat.le_refl _, upd_same, h0 D _ hD (Ex.new hD) upd_same⟩ (fun i H' hx p => ?_) (fun H' p => ?_)
  · obtain ⟨acc, h1, h2, p⟩ := p
    have q := hs i acc D H' hx h1 hD h2 p
    rw [show (0 : Int) + (i : Int) = (i : Int) from Int.zero_add _]
    exact q
  · obtain ⟨acc, h1, h2, p⟩ := p
    exact hd acc D H' h1 hD h2 p
def kLcL (K : PySem.W.Frag) (g : TG) (tt : TT) (te : TE) (vs : List Nat) (σ : St) (Q : VK) : VK := fun x H1 => ∃ a, x = .ref a ∧ (∃ xs, SqL K H1 a xs) ∧ LcW (Itl K a) g tt te vs σ Q H1
def kLcT (K : PySem.W.Frag) (g : TG) (tt : TT) (te : TE) (vs : List Nat) (σ : St) (Q : VK) : VK := fun x H1 => ∃ a, x = .ref a ∧ (∃ xs, SqT K H1 a xs) ∧ LcW (Itt K a) g tt te vs σ Q H1
def aLcR (g : TG) (tt : TT) (te : TE) (vs : List Nat) (σ : St) (Q : VK) : List V → Hp → Prop := fun us H1 => ∃ j : Int, us = [.int j] ∧ -(2 ^ 62) ≤ j ∧ j < 2 ^ 62 ∧ LcW (Itr 0 j.toNat) g tt te vs σ Q H1
theorem w_lcL (h : tl σ H (kLcL K g tt te vs σ Q)) : tLc (iList K tl) g tt te vs σ H Q := h
theorem w_lcT (h : tl σ H (kLcT K g tt te vs σ Q)) : tLc (iTup K tl) g tt te vs σ H Q := h
theorem w_lcR {a : TA} (h : a σ H (aLcR g tt te vs σ Q)) : tLc (iRng1 a) g tt te vs σ H Q := h
theorem k_lcL {a : Addr} {xs : List V} (h : SqL K H a xs) (q : LcW (Itl K a) g tt te vs σ Q H) : kLcL K g tt te vs σ Q (.ref a) H := ⟨a, rfl, ⟨xs, h⟩, q⟩
theorem k_lcT {a : Addr} {xs : List V} (h : SqT K H a xs) (q : LcW (Itt K a) g tt te vs σ Q H) : kLcT K g tt te vs σ Q (.ref a) H := ⟨a, rfl, ⟨xs, h⟩, q⟩
theorem a_lcR {n : Nat} {j : Int} (e : j = (n : Int)) (hn : n ≤ 100000000) (q : LcW (Itr 0 n) g tt te vs σ Q H) : aLcR g tt te vs σ Q [.int j] H := by
  subst e
  exact ⟨_, rfl, by omega, by omega, by rw [Int.toNat_natCast]; exact q⟩
end
end BkG
end
section
local macro_rules | `(tactic| walk_at "w1") => `(tactic| first
  | with_reducible refine w_seq ?_ | with_reducible refine w_set ?_ | with_reducible refine w_ret ?_ | with_reducible refine w_drop ?_ | with_reducible refine w_ifS ?_
  | with_reducible refine w_next ?_ | with_reducible refine w_c ?_ | (with_reducible refine w_var ?hv ?_; (case hv => rfl)) | with_reducible refine w_op ?_ | with_reducible refine w_cons ?_ | with_reducible refine w_nil ?_
  | with_reducible refine w_cb ?_ | with_reducible refine w_call ?_ | with_reducible refine w_tup ?_ | with_reducible refine w_lst ?_ | with_reducible refine w_bm ?_ | with_reducible refine w_bm0 ?_ | with_reducible refine w_un ?_
  | with_reducible refine w_test ?_ | with_reducible refine w_B ?_ | with_reducible refine k_B ?_ | with_reducible refine w_and ?_ | with_reducible refine w_or ?_ | with_reducible refine w_not ?_ | with_reducible refine w_if ?_
  | with_reducible refine w_andV ?_ | with_reducible refine w_orV ?_ | with_reducible refine w_notV ?_ | with_reducible refine k_andV ?_ | with_reducible refine k_orV ?_ | with_reducible refine k_notV ?_
  | with_reducible refine w_chain ?_ | with_reducible refine ex_bl ?_ | with_reducible refine w_isN ?_ | with_reducible refine w_notN ?_ | with_reducible refine w_yes ?_
  | with_reducible refine r_I0 ?_ | with_reducible refine r_U ?_ | with_reducible refine r_eqI ?_ | with_reducible refine r_neI ?_ | with_reducible refine r_eqS ?_ | with_reducible refine r_neS ?_ | with_reducible refine r_eqB ?_ | with_reducible refine r_neB ?_
  | with_reducible refine r_abs ?_ | with_reducible refine r_int ?_ | with_reducible refine r_intB ?_
  | with_reducible refine w_sl ?_ | with_reducible refine w_nop ?_ | with_reducible refine w_part ?_ | with_reducible refine k_part ?_ | with_reducible refine w_revL ?_
  | with_reducible refine w_asg ?_ | with_reducible refine w_gname ?_ | with_reducible refine w_gsub ?_ | with_reducible refine w_gnil ?_ | with_reducible refine w_gcons ?_ | with_reducible refine w_retN ?_ | with_reducible refine w_brk ?_ | with_reducible refine w_cont ?_
  | with_reducible refine w_par ?_ | with_reducible refine w_par3 ?_ | with_reducible refine par_ok ?_ | with_reducible refine par_ok3 ?_ | (with_reducible refine w_aug ?hv ?_; (case hv => rfl)) | with_reducible refine i_I ?_
  | with_reducible refine w_forL ?_ | with_reducible refine w_forT ?_ | with_reducible refine w_forR1 ?_ | with_reducible refine w_forE ?_ | with_reducible refine w_lcL ?_ | with_reducible refine w_lcT ?_ | with_reducible refine w_lcR ?_
  | (with_reducible refine a_tup ?hz ?_; (case hz => decide); intro _ _ _ _ _) | (with_reducible refine a_lst ?hz ?_; (case hz => decide); intro _ _ _ _ _)
  | (with_reducible refine if_pos' ?_) | (with_reducible refine if_neg' ?_))
local macro_rules | `(tactic| walk_at "w") => `(tactic| repeat (walk_at "w1"))
namespace BkG
open PySem PySem.Spec PyProof.Rows L2
/-! ### defs of the text and what they promise -/
structure Fn (K : PySem.W.Frag) (mg : Str → Option Value) (x : Str) (st : Stmt) (ps : List Str) : Prop where
  ex : ∃ f fd, Fun K x x st f fd ∧ mg x = some (.ref f) ∧ Binds K fd ps [] ∧ KBn K fd ps 0 ps (fun _ ws => ws) (fun _ zs => zs)
theorem fn_mk {K : PySem.W.Frag} {mg : Str → Option Value} {h : Heap} {x : Str} {st : Stmt} {ps : List Str} {f : Addr} {oc : Value} {od an : Option Addr} {osl : Array (Option Value)} {kV doc pm cdv ct : Value} (X : K.In h) (G : h.Ns mainGlobals mg)
    (hb : ∀ (kV doc pm : Value) (an : Option Addr) (cdv ct : Value) (us : List Value), us.length = ps.length → bindArgs (PySem.W.fnOf x x (defArgs st) (defBody st) (defScope st) .none kV doc pm an cdv ct) ⟨us, []⟩ = pure (ps.zip us))
    (hb2 : ∀ (kV doc pm : Value) (an : Option Addr) (cdv ct : Value) (us : List Value), us.length = ps.length → bindArgs (PySem.W.fnOf x x (defArgs st) (defBody st) (defScope st) .none kV doc pm an cdv ct) ⟨[], ps.zip us⟩ = pure (ps.zip us))
    (a : PySem.W.nsIn K mainGlobals x = some (some (.ref f))) (l : K.lookup f = some ⟨oc, od, .func (PySem.W.fnOf x x (defArgs st) (defBody st) (defScope st) .none kV doc pm an cdv ct), osl⟩) (c : PySem.W.codeIn K cdv x = true) (k : PySem.W.keepIn K (.ref f) = true) : Fn K mg x st ps :=
  ⟨f, _, fun_mk l c k, PySem.W.mg_of X G a, (fun_mk (st := st) l c k).binds hb, ⟨fun s us ws _ l1 l2 => (by
    have e : us = [] := List.eq_nil_of_length_eq_zero l1
    subst e
    exact .of_eq (hb2 kV doc pm an cdv ct ws l2)), fun _ r => r⟩⟩
structure Cal (P : Program) (w : World) (K : PySem.W.Frag) (mg : Str → Option Value) (base : Heap) (k : Nat) (x : Str) (sp : Sp) : Prop where
  ex : ∃ f fd ps, FnOk P w K mg base CX0 k f fd ps sp ∧ mg x = some (.ref f) ∧ PySem.W.keepIn K (.ref f) = true ∧ Binds K fd ps []
section
variable {P : Program} {w : World} {K : PySem.W.Frag} {mg : Str → Option Value} {base : Heap}
theorem Fn.cal {x : Str} {st : Stmt} {N ps : List Str} {k : Nat} {sp : Sp} (F : Fn K mg x st ps) (S : FnScope N ps (defScope st)) (len : ∀ vs H Q E, sp vs H Q E → vs.length = ps.length)
    (hbody : ∀ (f : Addr) (cdv : Value) (A : Around) (outer : List Env) (s : Shared) (H : Hp) (vs : List V) (Q : VK) (E : XK), Room k (A.deeper (envOfC x (defScope st) s.heap.objs.size f cdv)) → sp vs H Q E →
      ∃ t, PSs (cxOf CX0 P w K mg base N x (defScope st) f cdv A outer s H E).nox (defBody st) t ∧ t { nx := fun _ H' => Q .non H', rt := Q } (start N vs) H) : Cal P w K mg base (k + 1) x sp := by
  obtain ⟨f, fd, F1, hm, hb, _⟩ := F.ex
  exact ⟨f, fd, ps, F1.ok S len (hbody f), hm, F1.kp, hb⟩
end
theorem Room.le {j k : Nat} {A : Around} (r : Room j A) (h : k ≤ j) : Room k A := r.mono h
theorem pe_c0 {X : Cx} {x : Str} {p pos : Pos} {e : Expr} {es : List Expr} {t : TA} {sp : Sp} {j k : Nat} (c : Cal X.prog X.w X.K X.mg X.base k x sp) (hr : Room j X.A) (hk : k ≤ j) (hg : Gl X x) (ha : PA X (e :: es) t)
    (hdb : (x == ("__debug__" : Str)) = false := by decide) (he : starEach (e :: es) X.env = (false, eval e X.env) :: starEach es X.env := by rfl) (hpl : (backTo pos (starEach es X.env)).any (·.1) = false := by rfl) :
    PE X (.Call (.Name x p) (e :: es) [] pos) (tCall sp [] E0 t) := by
  obtain ⟨f, fd, ps, F, hm, kp, b⟩ := c.ex
  exact pe_call F (hr.mono hk) hg hm kp b .nil pass0 ha hdb he hpl
/-- a module's name as a value -/
theorem pe_gc {X : Cx} {x : Str} {v : V} {pos : Pos} (hg : Gl X x) (h : ∃ u, X.mg x = some u ∧ RelV v u) (hd : (x == ("__debug__" : Str)) = false := by decide) : PE X (.Name x pos) (tC v) := by
  obtain ⟨u, hm, r⟩ := h
  exact pe_glob hg hm r hd
/-- built-in names that the module leaves alone -/
structure Bz (mg : Str → Option Value) : Prop where
  abs : mg "abs" = none
  int : mg "int" = none
  len : mg "len" = none
  range : mg "range" = none
  isinstance : mg "isinstance" = none
  tuple : mg "tuple" = none
  list : mg "list" = none
  bool : mg "bool" = none
  str : mg "str" = none
  zip : mg "zip" = none
  enumerate : mg "enumerate" = none
  sorted : mg "sorted" = none
  min : mg "min" = none
  max : mg "max" = none
  all : mg "all" = none
  any : mg "any" = none
  sum : mg "sum" = none
  dict : mg "dict" = none
/-! ### is True, is False -/
def rIsV : R2 := fun x y H Q => ∃ b : Bool, y = .bl b ∧ Q (.bl (decide (x = .bl b))) H
def rIsNotV : R2 := fun x y H Q => ∃ b : Bool, y = .bl b ∧ Q (.bl (!decide (x = .bl b))) H
theorem relV_bl {x : V} {v : Value} {b : Bool} (r : RelV x v) : (v = Value.bool b) ↔ x = .bl b := by
  cases x with
  | non => cases r; simp
  | bl c => cases r; simp
  | int _ => obtain ⟨t, rfl⟩ := r; simp
  | str _ => obtain ⟨t, rfl⟩ := r; simp
  | byt _ => obtain ⟨t, rfl⟩ := r; simp
  | flt _ => obtain ⟨t, rfl⟩ := r; simp
  | ref _ => cases r; simp
  | ty _ => cases r; simp
theorem plainIs_bool {x : V} {v : Value} {b : Bool} (r : RelV x v) : plainIs v (.bool b) = true := by
  cases x with
  | non => cases r; rfl
  | bl c => cases r; rfl
  | int _ => obtain ⟨t, rfl⟩ := r; rfl
  | str _ => obtain ⟨t, rfl⟩ := r; rfl
  | byt _ => obtain ⟨t, rfl⟩ := r; rfl
  | flt _ => obtain ⟨t, rfl⟩ := r; rfl
  | ref _ => cases r; rfl
  | ty _ => cases r; rfl
theorem op_isV {X : Cx} : OpR X (compareOp .Is) rIsV := by
  intro pins s σ H x y v u Q I rx ry h
  obtain ⟨b, rfl, q⟩ := h
  cases (show u = Value.bool b from ry)
  by_cases e : x = .bl b
  · subst e
    cases (show v = Value.bool b from rx)
    exact wpAny_is_self rfl ⟨.bl true, H, I, rfl, by simpa using q⟩
  · exact wpAny_is_other (plainIs_bool rx) (fun z => e ((relV_bl rx).mp z)) ⟨.bl false, H, I, rfl, by simpa [e] using q⟩
theorem op_isNotV {X : Cx} : OpR X (compareOp .IsNot) rIsNotV := by
  intro pins s σ H x y v u Q I rx ry h
  obtain ⟨b, rfl, q⟩ := h
  cases (show u = Value.bool b from ry)
  by_cases e : x = .bl b
  · subst e
    cases (show v = Value.bool b from rx)
    exact wpAny_isNot_self rfl ⟨.bl false, H, I, rfl, by simpa using q⟩
  · exact wpAny_isNot_other (plainIs_bool rx) (fun z => e ((relV_bl rx).mp z)) ⟨.bl true, H, I, rfl, by simpa [e] using q⟩
section
variable {K : PySem.W.Frag} {H : Hp} {Q : VK} {x y : V}
theorem r_isV {b : Bool} (q : Q (.bl (decide (x = .bl b))) H) : rIsV x (.bl b) H Q := ⟨b, rfl, q⟩
theorem r_isNotV {b : Bool} (q : Q (.bl (!decide (x = .bl b))) H) : rIsNotV x (.bl b) H Q := ⟨b, rfl, q⟩
theorem r_isN (q : Q (.bl (decide (x = .non))) H) : rIsN x .non H Q := ⟨rfl, q⟩
theorem r_notN (q : Q (.bl (!decide (x = .non))) H) : rNotN x .non H Q := ⟨rfl, q⟩
/-- texts, named -/
def rCatS : R2 := fun x y H Q => ∃ i j, x = .str i ∧ y = .str j ∧ i.length + j.length ≤ sizeLine ∧ Q (.str (i ++ j)) H
theorem op_catS {X : Cx} : OpR X (binaryOp .Add) rCatS := op_add_str
theorem r_catS {a b : Str} (h : a.length + b.length ≤ 100000) (q : Q (.str (a ++ b)) H) : rCatS (.str a) (.str b) H Q := ⟨a, b, rfl, rfl, sz_of h, q⟩
theorem r_inS {c : Nat} {z : Str} (q : Q (.bl (decide (c ∈ z.cps.toList))) H) : rInS (.str ⟨#[c]⟩) (.str z) H Q := ⟨c, z, rfl, rfl, q⟩
theorem r_notInS {c : Nat} {z : Str} (q : Q (.bl (!decide (c ∈ z.cps.toList))) H) : rNotInS (.str ⟨#[c]⟩) (.str z) H Q := ⟨c, z, rfl, rfl, q⟩
end
/-! ### shapes of plain data -/
theorem shaped_ints (ns : List Int) : SeqAt.shaped (.list (ns.map PyData.int)) = true := by
  have h1 : ∀ ns : List Int, PyData.canLayAll0 (ns.map PyData.int) = true := by
    intro ns
    induction ns with
    | nil => rfl
    | cons n r ih => rw [List.map_cons]; unfold PyData.canLayAll0; rw [ih]; rfl
  have h2 : ∀ ns : List Int, PyData.depthAll (ns.map PyData.int) = 0 := by
    intro ns
    induction ns with
    | nil => rfl
    | cons n r ih => rw [List.map_cons]; unfold PyData.depthAll; rw [ih]; rfl
  unfold SeqAt.shaped
  rw [show PyData.canLay0 (.list (ns.map PyData.int)) = true by unfold PyData.canLay0; exact h1 ns, show PyData.depth (.list (ns.map PyData.int)) = 1 by unfold PyData.depth; rw [h2]]
  rfl
theorem dp_ints {K : PySem.W.Frag} {H : Hp} {a : Addr} {ns : List Int} (h : SqL K H a (ns.map V.int)) : Dp K H (.ref a) (.list (ns.map PyData.int)) := by
  refine .lst h (dpAll_of (by simp) fun i v d h1 h2 => ?_)
  rw [List.getElem?_map] at h1 h2
  cases e : ns[i]? with
  | none => rw [e] at h1; cases h1
  | some n => rw [e] at h1 h2; cases h1; cases h2; exact .int n
theorem eqv_nil {xs : List PyData} : PyData.eqv (.list xs) (.list []) = xs.isEmpty := by
  cases xs <;> simp [PyData.eqv, PyData.eqvAll]
/-! ### the deal -/
/-- the source of draws at D: its great cells at L, and a number -/
structure DS (H : Hp) (D L : Addr) (st : List Int) (b : Int) : Prop where
  hD : H D = some (.lst [.ref L, .int b])
  hL : H L = some (.lst (st.map V.int))
  len : st.length ≤ 100
  all : ∀ z ∈ st, 0 ≤ z
  b0 : 0 ≤ b
  b1 : b < 2147483647
def Deal (H : Hp) (D L : Addr) : Prop := ∃ st b, DS H D L st b
theorem DS.ne {H : Hp} {D L : Addr} {st : List Int} {b : Int} (h : DS H D L st b) : D ≠ L := by
  intro e
  have h1 := h.hD
  rw [e, h.hL] at h1
  cases st with
  | nil => simp at h1
  | cons z r => simp at h1
theorem DS.keep {H H' : Hp} {D L : Addr} {st : List Int} {b : Int} (h : DS H D L st b) (k : Ex H H') : DS H' D L st b := ⟨k _ _ h.hD, k _ _ h.hL, h.len, h.all, h.b0, h.b1⟩
theorem Deal.keep {H H' : Hp} {D L : Addr} (h : Deal H D L) (k : Ex H H') : Deal H' D L := let ⟨st, b, d⟩ := h; ⟨st, b, d.keep k⟩
/-- the great cells change -/
theorem DS.setL {H H' : Hp} {D L : Addr} {st st' : List Int} {b : Int} (h : DS H D L st b) (k : Kp [L] H H') (hL : H' L = some (.lst (st'.map V.int))) (hl : st'.length ≤ 100) (ha : ∀ z ∈ st', 0 ≤ z) : DS H' D L st' b :=
  ⟨k _ _ h.hD (by simp [h.ne]), hL, hl, ha, h.b0, h.b1⟩
theorem Kp.wider {M M' : List Addr} {H H' : Hp} (k : Kp M H H') (s : ∀ a, a ∈ M → a ∈ M') : Kp M' H H' := fun a o h n => k a o h fun z => n (s a z)
def spAny : Sp := fun vs H Q _ => ∃ (D L : Addr) (n : Int), vs = [.ref D, .int n] ∧ Deal H D L ∧ 0 < n ∧ n.natAbs < 2 ^ 4000 ∧
  ∀ (z : Int) (H' : Hp), 0 ≤ z → z < n → Deal H' D L → Kp [D, L] H H' → Q (.int z) H'
theorem last_int {st : List Int} (h : st ≠ []) : (st.map V.int)[(st.map V.int).length - 1]? = some (.int (st.getLast h)) := by
  rw [List.getElem?_map, List.length_map, ← List.getLast?_eq_getElem?, List.getLast?_eq_some_getLast h]; rfl
theorem atI_last' {st : List Int} (h : st ≠ []) : atI (st.map V.int) (-1) = some (.int (st.getLast h)) := by
  unfold atI ixN
  have hl : 0 < st.length := List.length_pos_iff.mpr h
  rw [if_neg (by omega), if_pos (by rw [List.length_map]; omega)]
  show (st.map V.int)[(-1 + ((st.map V.int).length : Int)).toNat]? = _
  rw [show (-1 + ((st.map V.int).length : Int)).toNat = (st.map V.int).length - 1 by omega]
  exact last_int h
theorem mapdrop {st : List Int} : (st.map V.int).dropLast = st.dropLast.map V.int := by rw [List.dropLast_eq_take, List.dropLast_eq_take, List.map_take, List.length_map]
end BkG
end
section
namespace BkG
open PySem PySem.Spec PyProof.Rows L2
theorem Ex.at {H H' : Hp} {a : Addr} {o : HO} (e : Ex H H') (h : H a = some o) : H' a = some o := e a o h
theorem Kp.at {M : List Addr} {H H' : Hp} {a : Addr} {o : HO} (e : Kp M H H') (h : H a = some o) (n : a ∉ M) : H' a = some o := e a o h n
theorem atI_of {α : Type} {xs : List α} {z : Int} (h0 : 0 ≤ z) (h1 : z < (xs.length : Int)) : ∃ x, atI xs z = some x ∧ xs[z.toNat]? = some x := by
  have hl : z.toNat < xs.length := by omega
  refine ⟨xs[z.toNat], ?_, List.getElem?_eq_getElem hl⟩
  unfold atI ixN
  rw [if_pos h0, if_pos h1]
  exact List.getElem?_eq_getElem hl
theorem atI_nn {α : Type} {xs : List α} {z : Int} {j : Nat} {x : α} (e : z = (j : Int)) (h : xs[j]? = some x) : atI xs z = some x := by rw [e]; exact atI_nat h
/-! ### data: their kinds, their sizes, being the smD -/
def isInt : PyData → Bool
  | .bool _ | .int _ => true
  | _ => false
def isBool : PyData → Bool
  | .bool _ => true
  | _ => false
def isStr : PyData → Bool
  | .str _ => true
  | _ => false
def isTup : PyData → Bool
  | .tuple _ => true
  | _ => false
def isLst : PyData → Bool
  | .list _ => true
  | _ => false
/-- at most n deep, nothing longer than 90000, no dict -/
def okD : Nat → PyData → Bool
  | _, .none | _, .bool _ | _, .int _ | _, .str _ => true
  | n + 1, .list xs | n + 1, .tuple xs => decide (xs.length ≤ 90000) && xs.all (okD n)
  | _, _ => false
theorem okD.mono : ∀ {n m : Nat} {d : PyData}, n ≤ m → okD n d = true → okD m d = true
  | _, _, .none, _, _ => by simp [okD]
  | _, _, .bool _, _, _ => by simp [okD]
  | _, _, .int _, _, _ => by simp [okD]
  | _, _, .str _, _, _ => by simp [okD]
  | 0, _, .list _, _, h => by simp [okD] at h
  | 0, _, .tuple _, _, h => by simp [okD] at h
  | 0, _, .dict _, _, h => by simp [okD] at h
  | _ + 1, _, .dict _, _, h => by simp [okD] at h
  | n + 1, 0, .list _, hl, _ => by omega
  | n + 1, 0, .tuple _, hl, _ => by omega
  | n + 1, m + 1, .list xs, hl, h => by
    simp only [okD, Bool.and_eq_true, List.all_eq_true] at h ⊢
    exact ⟨h.1, fun x hx => okD.mono (by omega) (h.2 x hx)⟩
  | n + 1, m + 1, .tuple xs, hl, h => by
    simp only [okD, Bool.and_eq_true, List.all_eq_true] at h ⊢
    exact ⟨h.1, fun x hx => okD.mono (by omega) (h.2 x hx)⟩
mutual
def smD : PyData → PyData → Bool
  | .none, .none => true
  | .bool a, .bool b => a == b
  | .int a, .int b => a == b
  | .str a, .str b => a == b
  | .list xs, .list ys => smAll xs ys
  | .tuple xs, .tuple ys => smAll xs ys
  | _, _ => false
def smAll : List PyData → List PyData → Bool
  | [], [] => true
  | x :: xs, y :: ys => smD x y && smAll xs ys
  | _, _ => false
end
mutual
theorem smD_refl : ∀ (n : Nat) (d : PyData), okD n d = true → smD d d = true
  | _, .none, _ => by simp [smD]
  | _, .bool a, _ => by simp [smD]
  | _, .int a, _ => by simp [smD]
  | _, .str a, _ => by simp [smD]
  | 0, .list xs, h => by simp [okD] at h
  | 0, .tuple xs, h => by simp [okD] at h
  | n + 1, .list xs, h => by
    simp only [okD, Bool.and_eq_true, List.all_eq_true] at h
    simp only [smD]; exact smAll_refl n xs h.2
  | n + 1, .tuple xs, h => by
    simp only [okD, Bool.and_eq_true, List.all_eq_true] at h
    simp only [smD]; exact smAll_refl n xs h.2
  | 0, .dict xs, h => by simp [okD] at h
  | _ + 1, .dict xs, h => by simp [okD] at h
theorem smAll_refl : ∀ (n : Nat) (ds : List PyData), (∀ d ∈ ds, okD n d = true) → smAll ds ds = true
  | _, [], _ => by simp [smAll]
  | n, d :: ds, h => by simp only [smAll, Bool.and_eq_true]; exact ⟨smD_refl n d (h d List.mem_cons_self), smAll_refl n ds fun x hx => h x (List.mem_cons_of_mem _ hx)⟩
end
theorem smAll_len : ∀ {xs ys : List PyData}, xs.length ≠ ys.length → smAll xs ys = false
  | [], [], h => by simp at h
  | [], _ :: _, _ => by simp [smAll]
  | _ :: _, [], _ => by simp [smAll]
  | x :: xs, y :: ys, h => by simp only [smAll, smAll_len (xs := xs) (ys := ys) (by simpa using h), Bool.and_false]
/-- the pairs that are unlike -/
theorem smAll_iff : ∀ {xs ys : List PyData}, xs.length = ys.length → (smAll xs ys = true ↔ ∀ (i : Nat) (x y : PyData), xs[i]? = some x → ys[i]? = some y → smD x y = true)
  | [], [], _ => by simp [smAll]
  | [], _ :: _, h => by simp at h
  | _ :: _, [], h => by simp at h
  | x :: xs, y :: ys, h => by
    simp only [smAll, Bool.and_eq_true]
    rw [smAll_iff (xs := xs) (ys := ys) (by simpa using h)]
    constructor
    · rintro ⟨h1, h2⟩ i a b ha hb
      cases i with
      | zero => simp at ha hb; subst ha; subst hb; exact h1
      | succ i => exact h2 i a b (by simpa using ha) (by simpa using hb)
    · intro g
      exact ⟨g 0 x y rfl rfl, fun i a b ha hb => g (i + 1) a b (by simpa using ha) (by simpa using hb)⟩
/-! ### isinstance of data -/
def tyN : PyData → String
  | .none => "NoneType"
  | .bool _ => "bool"
  | .int _ => "int"
  | .str _ => "str"
  | .list _ => "list"
  | .tuple _ => "tuple"
  | .dict _ => "dict"
section
variable {K : PySem.W.Frag} {M : List Addr} {H : Hp} {Q : VK} {v : V} {d : PyData}
theorem Dv.ty (h : Dv M H v d) : TyX K H v (.type (tyN d)) := by
  cases h with
  | non => exact .base .non
  | bl b => exact .base (.bl b)
  | int i => exact .base (.int i)
  | str x => exact .base (.str x)
  | lst h n l t => exact .base (.lst h)
  | tup h l t => exact .base (.tup h)
theorem Dv.nodict (h : Dv M H v d) : ∀ kvs, d ≠ .dict kvs := by cases h <;> simp
theorem r_isiInt (h : Dv M H v d) (q : Q (.bl (isInt d)) H) : rIsi K [v, .ty "int"] H Q := by
  refine ⟨v, _, _, _, isInt d, rfl, .ty _, h.ty, kit_ty ?_, q⟩
  have := h.nodict
  cases d <;> first | exact absurd rfl (this _) | (simp only [tyN, isInt, isBool, isStr, isTup, isLst]; decide +kernel)
theorem r_isiBool (h : Dv M H v d) (q : Q (.bl (isBool d)) H) : rIsi K [v, .ty "bool"] H Q := by
  refine ⟨v, _, _, _, isBool d, rfl, .ty _, h.ty, kit_ty ?_, q⟩
  have := h.nodict
  cases d <;> first | exact absurd rfl (this _) | (simp only [tyN, isInt, isBool, isStr, isTup, isLst]; decide +kernel)
theorem r_isiStr (h : Dv M H v d) (q : Q (.bl (isStr d)) H) : rIsi K [v, .ty "str"] H Q := by
  refine ⟨v, _, _, _, isStr d, rfl, .ty _, h.ty, kit_ty ?_, q⟩
  have := h.nodict
  cases d <;> first | exact absurd rfl (this _) | (simp only [tyN, isInt, isBool, isStr, isTup, isLst]; decide +kernel)
theorem r_isiTup (h : Dv M H v d) (q : Q (.bl (isTup d)) H) : rIsi K [v, .ty "tuple"] H Q := by
  refine ⟨v, _, _, _, isTup d, rfl, .ty _, h.ty, kit_ty ?_, q⟩
  have := h.nodict
  cases d <;> first | exact absurd rfl (this _) | (simp only [tyN, isInt, isBool, isStr, isTup, isLst]; decide +kernel)
theorem r_isiLst (h : Dv M H v d) (q : Q (.bl (isLst d)) H) : rIsi K [v, .ty "list"] H Q := by
  refine ⟨v, _, _, _, isLst d, rfl, .ty _, h.ty, kit_ty ?_, q⟩
  have := h.nodict
  cases d <;> first | exact absurd rfl (this _) | (simp only [tyN, isInt, isBool, isStr, isTup, isLst]; decide +kernel)
theorem r_isiTL {p : Addr} (hp : H p = some (.tup [.ty "tuple", .ty "list"])) (h : Dv M H v d) (q : Q (.bl (isTup d || isLst d)) H) : rIsiT K [v, .ref p] H Q := by
  have n := h.nodict
  have h1 : PySem.W.kitOne K (.type (tyN d)) (.type "tuple") = some (isTup d) := kit_ty (by cases d <;> first | exact absurd rfl (n _) | (simp only [tyN, isTup, isLst]; decide +kernel))
  have h2 : PySem.W.kitOne K (.type (tyN d)) (.type "list") = some (isLst d) := kit_ty (by cases d <;> first | exact absurd rfl (n _) | (simp only [tyN, isTup, isLst]; decide +kernel))
  refine ⟨v, p, _, _, [.type "tuple", .type "list"], _, rfl, hp, .cons (.ty _) (.cons (.ty _) .nil), h.ty, kitAny_cons (r := isTup d || isLst d) h1 (fun e => ?_) (fun e => by rw [e]; rfl), q⟩
  rw [e, Bool.false_or]
  exact kitAny_cons h2 (fun e => by rw [e]; exact kitAny_nil) fun e => e
end
/-! ### comprehensions over zip -/
section
variable {K : PySem.W.Frag} {σ : L2.St} {H : Hp} {v : V} {tt : TT} {te : TE} {g : TG} {vs : List Nat} {Q : VK}
theorem lcZL {a b : Addr} {xs ys : List V} (hz : xs.length = ys.length) (P : Nat → List V → Addr → Hp → Prop) (h0 : ∀ D H2, H D = none → Ex H H2 → H2 D = some (.lst []) → P 0 [] D H2) (hl : ∀ i acc D H', i ≤ xs.length → P i acc D H' → SqL K H' a xs ∧ SqL K H' b ys)
    (hs : ∀ i x y acc D H' T H2, xs[i]? = some x → ys[i]? = some y → acc.length ≤ i → H D = none → H2 D = some (.lst acc) → P i acc D H' → Ex H' H2 → H2 T = some (.tup [x, y]) → g (.ref T) (wipe σ vs) H2 (kTurn tt te vs P D i σ))
    (hd : ∀ acc D H', acc.length ≤ xs.length → H D = none → H' D = some (.lst acc) → P xs.length acc D H' → Q (.ref D) H') : LcW (Itz K a b) g tt te vs σ Q H := by
  intro D hD
  refine ⟨fun i m H' => m = xs.length - i ∧ i ≤ xs.length ∧ Pc P D i H', ⟨xs.length, by simp, Nat.zero_le _, [], Nat.le_refl _, upd_same, h0 D _ hD (Ex.new hD) upd_same⟩, ?_⟩
  rintro i m H' ⟨rfl, hi, acc, h1, h2, p⟩
  obtain ⟨q1, q2⟩ := hl i acc D H' hi p
  by_cases hlt : i < xs.length
  · have hx : xs[i]? = some xs[i] := List.getElem?_eq_getElem hlt
    have hlt2 : i < ys.length := by omega
    have hy : ys[i]? = some ys[i] := List.getElem?_eq_getElem hlt2
    refine .inr ⟨⟨xs, ys, _, _, q1, q2, hx, hy⟩, Pc P D (i + 1), fun H'' p' => ⟨xs.length - (i + 1), by omega, rfl, hlt, p'⟩, fun w H'' y => ?_⟩
    obtain ⟨T, x', y', rfl, hT, rfl, f1, f2⟩ := y
    exact hs i x' y' acc D H' T _ (f1 xs q1) (f2 ys q2) h1 hD (Ex.at (Ex.new hT) h2) p (Ex.new hT) upd_same
  · have e : i = xs.length := by omega
    subst e
    exact .inl ⟨⟨xs, ys, q1, q2, Or.inl (Nat.le_refl _)⟩, hd acc D H' h1 hD h2 p⟩
theorem lcZT {a b : Addr} {xs ys : List V} (hz : xs.length = ys.length) (P : Nat → List V → Addr → Hp → Prop) (h0 : ∀ D H2, H D = none → Ex H H2 → H2 D = some (.lst []) → P 0 [] D H2) (hl : ∀ i acc D H', i ≤ xs.length → P i acc D H' → SqT K H' a xs ∧ SqT K H' b ys)
    (hs : ∀ i x y acc D H' T H2, xs[i]? = some x → ys[i]? = some y → acc.length ≤ i → H D = none → H2 D = some (.lst acc) → P i acc D H' → Ex H' H2 → H2 T = some (.tup [x, y]) → g (.ref T) (wipe σ vs) H2 (kTurn tt te vs P D i σ))
    (hd : ∀ acc D H', acc.length ≤ xs.length → H D = none → H' D = some (.lst acc) → P xs.length acc D H' → Q (.ref D) H') : LcW (RZ.ItzT K a b) g tt te vs σ Q H := by
  intro D hD
  refine ⟨fun i m H' => m = xs.length - i ∧ i ≤ xs.length ∧ Pc P D i H', ⟨xs.length, by simp, Nat.zero_le _, [], Nat.le_refl _, upd_same, h0 D _ hD (Ex.new hD) upd_same⟩, ?_⟩
  rintro i m H' ⟨rfl, hi, acc, h1, h2, p⟩
  obtain ⟨q1, q2⟩ := hl i acc D H' hi p
  by_cases hlt : i < xs.length
  · have hx : xs[i]? = some xs[i] := List.getElem?_eq_getElem hlt
    have hlt2 : i < ys.length := by omega
    have hy : ys[i]? = some ys[i] := List.getElem?_eq_getElem hlt2
    refine .inr ⟨⟨xs, ys, _, _, q1, q2, hx, hy⟩, Pc P D (i + 1), fun H'' p' => ⟨xs.length - (i + 1), by omega, rfl, hlt, p'⟩, fun w H'' y => ?_⟩
    obtain ⟨T, x', y', rfl, hT, rfl, f1, f2⟩ := y
    exact hs i x' y' acc D H' T _ (f1 xs q1) (f2 ys q2) h1 hD (Ex.at (Ex.new hT) h2) p (Ex.new hT) upd_same
  · have e : i = xs.length := by omega
    subst e
    exact .inl ⟨⟨xs, ys, q1, q2, Or.inl (Nat.le_refl _)⟩, hd acc D H' h1 hD h2 p⟩
def aLcZ (K : PySem.W.Frag) (g : TG) (tt : TT) (te : TE) (vs : List Nat) (σ : L2.St) (Q : VK) : List V → Hp → Prop := fun us H1 => ∃ a b xs ys, us = [.ref a, .ref b] ∧ ((SqL K H1 a xs ∧ SqL K H1 b ys ∧ LcW (Itz K a b) g tt te vs σ Q H1) ∨ (SqT K H1 a xs ∧ SqT K H1 b ys ∧ LcW (RZ.ItzT K a b) g tt te vs σ Q H1))
theorem w_lcZ {a : TA} (h : a σ H (aLcZ K g tt te vs σ Q)) : tLc (RZ.iZipA K a) g tt te vs σ H Q := h
end
theorem small4000 {z : Int} (h : z.natAbs < 2 ^ 64) : z.natAbs < 2 ^ 4000 := Nat.lt_of_lt_of_le h (Nat.pow_le_pow_right (by decide) (by decide))
theorem cut_to {xs : List V} {k : Nat} : cutV xs none (some (k : Int)) = xs.take k := by
  unfold cutV
  rw [HT.sIx_none, HT.sIx_nat, List.drop_zero, Nat.sub_zero, Nat.min_def]
  split
  · rfl
  · rw [List.take_of_length_le (Nat.le_refl _), List.take_of_length_le (by omega)]
theorem take_more {α : Type} {l : List α} {i : Nat} {x : α} (h : l[i]? = some x) : l.take (i + 1) = l.take i ++ [x] := by
  rw [List.take_add_one, h]; rfl
theorem map_some {α β : Type} {f : α → β} {l : List α} {i : Nat} {y : β} (h : (l.map f)[i]? = some y) : ∃ x, l[i]? = some x ∧ y = f x := by
  rw [List.getElem?_map] at h
  cases e : l[i]? with
  | none => rw [e] at h; cases h
  | some x => rw [e] at h; exact ⟨x, rfl, (Option.some.inj h).symm⟩
/-! ### what the law's helpers promise -/
def spDraw (K : PySem.W.Frag) : Sp := fun vs H Q _ => ∃ (a : Addr) (ns : List Int) (salt : Int), vs = [.ref a, .int salt] ∧ SqL K H a (ns.map V.int) ∧ ns.length ≤ 63 ∧ 0 ≤ salt ∧ salt ≤ 1000 ∧
  ∀ (D L : Addr) (H' : Hp), Ex H H' → Deal H' D L → Q (.ref D) H'

def spOf : Sp := fun vs H Q _ => ∃ (D L p : Addr) (xs : List V), vs = [.ref D, .ref p] ∧ Deal H D L ∧ H p = some (.lst xs) ∧ p ≠ D ∧ p ≠ L ∧ 0 < xs.length ∧ xs.length ≤ 90000 ∧
  ∀ (i : Nat) (x : V) (H' : Hp), xs[i]? = some x → Deal H' D L → Kp [D, L] H H' → Q x H'
def spSame : Nat → Sp
  | 0 => fun _ _ _ _ => False
  | n + 1 => fun vs H Q _ => ∃ (M : List Addr) (v u : V) (d e : PyData), vs = [v, u] ∧ Dv M H v d ∧ Dv M H u e ∧ okD n d = true ∧ ∀ H', Ex H H' → Q (.bl (smD d e)) H'
theorem same_seq {d e : PyData} (h1 : (isTup d || isLst d) = true) (h2 : (isTup e || isLst e) = true) (h3 : isTup e = isTup d) : (∃ xs ys, d = .tuple xs ∧ e = .tuple ys) ∨ ∃ xs ys, d = .list xs ∧ e = .list ys := by
  cases d <;> cases e <;> simp [isTup, isLst] at h1 h2 h3 ⊢
theorem same_no {d e : PyData} (h2 : (isTup e || isLst e) = true) (h3 : isTup e ≠ isTup d ∨ (isTup d || isLst d) = false) : smD d e = false := by
  cases d <;> cases e <;> simp [isTup, isLst, smD] at h2 h3 ⊢
theorem if_dt {b : Bool} {A B : Prop} (e : b = true) (h : A) : if b = true then A else B := by rw [e]; exact if_pos' h
theorem if_df {b : Bool} {A B : Prop} (e : b = false) (h : B) : if b = true then A else B := by rw [e]; exact if_neg' h
theorem Dv.tup_inv {M : List Addr} {H : Hp} {v : V} {ds : List PyData} (h : Dv M H v (.tuple ds)) : ∃ a xs, v = .ref a ∧ H a = some (.tup xs) ∧ xs.length = ds.length ∧ ∀ (i : Nat) (x : V) (d : PyData), xs[i]? = some x → ds[i]? = some d → Dv M H x d := by
  cases h with
  | tup h l t => exact ⟨_, _, rfl, h, l, t⟩
theorem Dv.lst_inv {M : List Addr} {H : Hp} {v : V} {ds : List PyData} (h : Dv M H v (.list ds)) : ∃ a xs, v = .ref a ∧ H a = some (.lst xs) ∧ a ∉ M ∧ xs.length = ds.length ∧ ∀ (i : Nat) (x : V) (d : PyData), xs[i]? = some x → ds[i]? = some d → Dv M H x d := by
  cases h with
  | lst h n l t => exact ⟨_, _, rfl, h, n, l, t⟩
theorem get_of_len {α β : Type} {xs : List α} {ys : List β} {i : Nat} {x : α} (l : xs.length = ys.length) (h : xs[i]? = some x) : ∃ y, ys[i]? = some y := by
  have := (List.getElem?_eq_some_iff.mp h).1
  exact ⟨ys[i]'(by omega), List.getElem?_eq_getElem _⟩
end BkG
end
section
namespace PySem
namespace BkEnum
open Sem (wp)
open AutoSeq1 (wpAny_loadPart')
theorem meets_newT (l : Addr) (items : Array Value) (n : Nat) (dct : Option Addr) (sl : Array (Option Value)) :
    Meets (Builtin.«enumerate.__new__» ⟨[.type "enumerate", .ref l], []⟩) (fun _ R s => s.heap.get? l = some { cls := .type "tuple", dict := dct, data := .seq items n, slots := sl } ∧
      R (.ok (.ret (.ref (s.heap.push { cls := .type "tuple_iterator", data := .fields #[.ref l, .int 0 0] }).objs.size)))
        { s with heap := (s.heap.push { cls := .type "tuple_iterator", data := .fields #[.ref l, .int 0 0] }).push { cls := .type "enumerate", data := .fields #[.none, .bool false, .ref s.heap.objs.size, rawInt 0, .none, .none] } }) :=
  .of_wp fun prog w A R s h => by
    obtain ⟨hp, g, d, tk, os⟩ := s; obtain ⟨hl, h⟩ := h
    have hsub := sub_enumerate
    have hL : Heap.IsTuple (Shared.heap ⟨hp, g, d, tk, os⟩) l items := ⟨_, hl, rfl, n, rfl⟩
    wp_walk using wpAny_loadPart' hl
    refine wpAny_stack_any fun st => wpAny_pure ?_
    split
    · rename_i c _ _ _ _ _
      cases (c == Value.type "enumerate")
      · wp_walk using wpAny_loadPart' hl, wpAny_pyIter_tuple hL
        exact ⟨_, rfl, h⟩
      · wp_walk using wpAny_loadPart' hl, wpAny_pyIter_tuple hL
        exact ⟨_, rfl, h⟩
    · wp_walk using wpAny_loadPart' hl, wpAny_pyIter_tuple hL
      exact ⟨_, rfl, h⟩
theorem call_tuple {prog : Program} {w : World} {A : Around} {E : Value → Shared → Prop} {s : Shared} {l : Addr} {items : Array Value} {Q : Value → Shared → Prop} (hL : s.heap.IsTuple l items)
    (h : ∀ h', IsEnum h' (s.heap.objs.size + 1) s.heap.objs.size 0 .none → h'.IsTupleIter s.heap.objs.size l 0 → h'.objs.size = s.heap.objs.size + 2 →
      (∀ b o, s.heap.get? b = some o → h'.get? b = some o) → Q (.ref (s.heap.objs.size + 1)) { s with heap := h' }) :
    wpAny (model prog w) A (call (.type "enumerate") [.ref l]) Q E s := by
  obtain ⟨⟨c, dct, dt, sl⟩, hl, hc, n, hd⟩ := hL
  replace hc : c = .type "tuple" := hc
  replace hd : dt = .seq items n := hd
  subst hc hd
  refine callType_new F.called_enumerate (by decide) (F.typeCall_enumerate_1 _) (F.newCall_enumerate_1 _) (fun obj => F.args_object_init_2 obj _) F.entry_enumerate_new
    (meets_newT l items n dct sl) ⟨hl, ?_⟩
  have hz : (s.heap.push { cls := .type "tuple_iterator", data := .fields #[.ref l, .int 0 0] }).objs.size = s.heap.objs.size + 1 := Heap.size_push ..
  show _ ∧ _
  rw [hz]
  have he : IsEnum ((s.heap.push { cls := .type "tuple_iterator", data := .fields #[.ref l, .int 0 0] }).push
      { cls := .type "enumerate", data := .fields #[.none, .bool false, .ref s.heap.objs.size, rawInt 0, .none, .none] }) (s.heap.objs.size + 1) s.heap.objs.size 0 .none := by
    have := Heap.get?_push_size (s.heap.push { cls := .type "tuple_iterator", data := .fields #[.ref l, .int 0 0] })
      (o := { cls := .type "enumerate", data := .fields #[.none, .bool false, .ref s.heap.objs.size, rawInt 0, .none, .none] }) rfl
    rw [hz] at this; exact this
  refine ⟨⟨_, he, rfl⟩, h _ he ⟨_, Heap.get?_push_of_some _ (Heap.get?_push_size _ rfl), rfl, rfl⟩ (by rw [Heap.size_push, hz]) fun b o x => Heap.get?_push_of_some _ (Heap.get?_push_of_some _ x)⟩
end BkEnum
end PySem
namespace BkG
open PySem PySem.Spec PyProof.Rows L2
/-- the tuple at a as it stands at each turn, the items behind their numbers -/
def IteT (K : PySem.W.Frag) (a : Addr) : It :=
  ⟨fun i H => ∃ (xs : List V) (x : V), SqT K H a xs ∧ xs[i]? = some x,
    fun i H v H' => ∃ T x, v = .ref T ∧ H T = none ∧ H' = upd H T (.tup [.int (i : Nat), x]) ∧ (∀ xs, SqT K H a xs → xs[i]? = some x),
    fun i H => ∃ xs : List V, SqT K H a xs ∧ xs.length ≤ i⟩
theorem turn_enumT {P : Program} {w : World} {K : PySem.W.Frag} {elts : List Expr} {kk : Nat} {tpos : Pos} (a e it : Addr) :
    Turn P w K (.Tuple elts kk tpos) (IteT K a) [e, it] e (fun i h => (∃ old, IsEnum h e it ((i : Nat) : Int) old) ∧ h.IsTupleIter it a i ∧ e ≠ it ∧ a ≠ it ∧ a ≠ e) where
  mem := by simp
  obj := fun i h st b hb => by
    obtain ⟨⟨old, he⟩, ⟨o, ho, hc, hd⟩, _⟩ := st
    have e' : b = e ∨ b = it := by simpa using hb
    rcases e' with z | z
    · rw [z]; exact ⟨_, he, fun v q => nomatch q⟩
    · rw [z]; exact ⟨o, ho, fun v q => by rw [hd] at q; cases q⟩
  keep := fun i h h' st k => let ⟨⟨old, he⟩, hi, hne⟩ := st; ⟨⟨old, k e (by simp) _ he⟩, hi.at fun o q => k it (by simp) o q, hne⟩
  item := by
    intro X hP hw hK hc i pins s σ H E I hf st hg
    subst hP hw hK
    obtain ⟨⟨old, he⟩, hit, hne, hai, hae⟩ := st
    obtain ⟨xs, x, hq, hx⟩ := hg
    obtain ⟨its, rv, p, hz⟩ := I.tuple hq
    obtain ⟨u, hu, ru⟩ := rv.get hx
    have hel : e < s.heap.objs.size := Heap.lt_size he
    have hil : it < s.heap.objs.size := by obtain ⟨_, q, _⟩ := hit; exact Heap.lt_size q
    have hlt : i < its.toArray.size := by
      have h := (List.getElem?_eq_some_iff.mp hu).1
      simpa using h
    refine wpAny_pyNext_enum_itemD (Draws.tuple (show X.A.in1.handled = none from I.ok.hd hc) it a hai its.toArray) he ⟨hit, p⟩ hlt hne (by simp [hne, Ne.symm hae]) fun y h' tk hy ho st' hT hsz hk => ?_
    have ey : y = u := by
      have h1 : its.toArray[i]? = some y := hy
      have h2 : its.toArray[i]? = some u := by simpa using hu
      rw [h2] at h1; exact (Option.some.inj h1).symm
    subst ey
    refine ⟨_, rfl, wpAny_letOwnedTupleGo_enum (s := { s with heap := h', toks := tk + 1 }) ho fun h'' he' sb => ?_⟩
    have hT2 : h''.get? s.heap.objs.size = some { cls := .type "tuple", data := .seq #[.int i tk, y] } := (sb.2 _ (Nat.ne_of_gt hel)).trans hT
    have new : ObjOk X.prog X.w (upd H s.heap.objs.size (.tup [.int (i : Nat), x])) h'' s.heap.objs.size (.tup [.int (i : Nat), x]) :=
      ⟨by show 2 ≤ sizeLine; decide, [.int i tk, y], .cons ⟨_, rfl⟩ (.cons ru .nil), ⟨_, hT2, rfl, _, rfl⟩⟩
    have I1 : Inv X pins σ (upd H s.heap.objs.size (.tup [.int (i : Nat), x])) { s with heap := h'', toks := tk + 1 } :=
      I.turnedNew (ch := [e, it]) (fun b ob hb q => (sb.2 b (fun z => hb (by simp [z]))).trans (hk b ob (fun z => hb (by simp [z])) (fun z => hb (by simp [z])) q)) hf (Nat.le_refl _) new
    refine ⟨.ref s.heap.objs.size, _, I1, rfl, ⟨_, x, rfl, I.hok.fresh (Nat.le_refl _), rfl, fun ys hy => by rw [I.tuple_inj hy hq]; exact hx⟩, ⟨⟨y, ?_⟩, st'.1.at fun o q => (sb.2 it (Ne.symm hne)).trans q, hne, hai, hae⟩, fun b hb => ?_⟩
    · have e1 : ((i + 1 : Nat) : Int) = (i : Int) + 1 := by omega
      rw [e1]; exact he'
    · have hb' : b < s.heap.objs.size := by
        have e' : b = e ∨ b = it := by simpa using hb
        rcases e' with z | z
        · rw [z]; exact hel
        · rw [z]; exact hil
      rw [upd_ne (Nat.ne_of_lt hb')]
      exact (hf b hb).1
  done := by
    intro X hP hw hK hc i pins s σ H E I hf st hg
    subst hP hw hK
    obtain ⟨⟨old, he⟩, hit, hne, hai, hae⟩ := st
    obtain ⟨xs, hq, hx⟩ := hg
    obtain ⟨its, rv, p, hz⟩ := I.tuple hq
    obtain ⟨f0, f1, f2, f3, f4, f5⟩ := hf it (by simp)
    have hl := rv.length
    have hh : X.A.in1.handled = none := I.ok.hd hc
    unfold pyNext
    have hT : s.TypeIs (.ref e) "enumerate" := ⟨_, he, rfl⟩
    refine wpAny_bind (wpAny_attempt (wpAny_callSpecial?_slot (name := Str.ofString "__next__") hT F.slot_enumerate_next
      (wpAny_call_entry F.slot_enumerate_next hT F.entry_enumerate_next ?_ (F.args_enumerate_next_1 _))))
    show wpAny _ _ (field (.ref e) 2 >>= _) _ _ _
    refine wpAny_bind (wpAny_field he rfl (x := .ref it) rfl ?_)
    refine wpAny_bind (wpAny_nextOf_tuple_end hh hit (show s.heap.IsTuple a its.toArray from p) (by simp; omega) fun h' x he' hx' => ?_)
    obtain ⟨o, ho, hc'⟩ := hx'
    refine wpAny_bind (wpAny_isInstance (T := "StopIteration") (b := true) ⟨o, ho, hc'⟩ isSubtype_stop ?_)
    exact wpAny_pure ⟨rfl, I.turned (t' := s.toks) (fun b o hb q => he' b o hb q) f0 f1 f3 f4 f5⟩
  self := fun A i s Q E st h => let ⟨⟨_, he⟩, _⟩ := st; wpAny_pyIter_enum he h
def iEnumT (K : PySem.W.Frag) (ta : TA) : TI := fun σ H R => ta σ H fun vs H1 => ∃ a xs, vs = [.ref a] ∧ SqT K H1 a xs ∧ R (IteT K a) H1
theorem pi_enumT {X : Cx} {e : Expr} {ta : TA} {p pos tpos : Pos} {elts : List Expr} {kk : Nat} (hg : Gl X "enumerate") (hm : X.mg "enumerate" = none) (ha : PA X [e] ta) (hs : starEach [e] X.env = [(false, eval e X.env)] := by rfl) :
    PI X (.Tuple elts kk tpos) (.Call (.Name "enumerate" p) [e] [] pos) (iEnumT X.K ta) := by
  refine ⟨fun pins s σ H R I h => ?_⟩
  refine Call_ (ld_blt I hg hm boot_enumerate (PyProof.Rows.callWith_type1 (thn (ha.run pos pins s σ H _ I h) fun us s1 ⟨vs, H1, I1, r1, q1⟩ => ?_) hs rfl))
  obtain ⟨a, xs, ex, hq, q⟩ := q1
  subst ex
  cases r1 with
  | cons r rr =>
    cases rr
    cases r
    obtain ⟨its, rv, p', hz⟩ := I1.tuple hq
    refine PySem.BkEnum.call_tuple (show s1.heap.IsTuple a its.toArray from p') fun h' he hit hsz hk => wpAny_pyIter_enum he ?_
    have I2 : Inv X pins σ H1 { s1 with heap := h' } := I1.kept (t' := s1.toks) hk
    have hal : a < s1.heap.objs.size := p'.lt
    refine ⟨s1.heap.objs.size + 1, [s1.heap.objs.size + 1, s1.heap.objs.size], _, _, H1, rfl, I2, turn_enumT a (s1.heap.objs.size + 1) s1.heap.objs.size, ⟨⟨.none, he⟩, hit, Nat.succ_ne_self _, Nat.ne_of_lt hal, Nat.ne_of_lt (Nat.lt_succ_of_lt hal)⟩, fun b hb => ?_, q⟩
    have e' : b = s1.heap.objs.size + 1 ∨ b = s1.heap.objs.size := by simpa using hb
    have hle : s1.heap.objs.size ≤ b := by
      rcases e' with z | z
      · rw [z]; exact Nat.le_add_right _ _
      · rw [z]; exact Nat.le_refl _
    exact I1.fpOk hle (I1.hok.fresh hle)
section
variable {K : PySem.W.Frag} {σ : L2.St} {H : Hp} {t : TS} {f bk ct : L2.St → Hp → Prop} {rt : VK} {g : TG}
/-- enumerate(a tuple) -/
def aEnumT (K : PySem.W.Frag) (g : TG) (tb : TS) (D : Ends) (σ : L2.St) : List V → Hp → Prop := fun vs H1 => ∃ a xs, vs = [.ref a] ∧ SqT K H1 a xs ∧ ∃ W : Nat → Nat → L2.St → Hp → Prop, (∃ m, W 0 m σ H1) ∧ ∀ i m σ H, W i m σ H →
  ((IteT K a).stop i H ∧ D.nx σ H) ∨ ((IteT K a).go i H ∧ ∃ N : L2.St → Hp → Prop, (∀ σ' H', N σ' H' → ∃ m', m' < m ∧ W (i + 1) m' σ' H') ∧ ∀ x H', (IteT K a).yld i H x H' → g x σ H' fun σ2 H2 => tb { D with nx := N, ct := N, bk := D.nx } σ2 H2)
theorem w_forET {a : TA} (h : a σ H (aEnumT K g t ⟨f, rt, bk, ct⟩ σ)) : tFor (iEnumT K a) g t ⟨f, rt, bk, ct⟩ σ H := h
theorem a_enumT {a : Addr} {xs : List V} (h : SqT K H a xs) (Pv : Nat → L2.St → Hp → Prop) (h0 : Pv 0 σ H) (hl : ∀ i σ' H', i ≤ xs.length → Pv i σ' H' → SqT K H' a xs)
    (hs : ∀ i x σ' H' T H2, xs[i]? = some x → Pv i σ' H' → H' T = none → Ex H' H2 → H2 T = some (.tup [.int (i : Int), x]) → g (.ref T) σ' H2 fun σ2 H2 => t ⟨Pv (i + 1), rt, f, Pv (i + 1)⟩ σ2 H2) (hd : ∀ σ' H', Pv xs.length σ' H' → f σ' H') :
    aEnumT K g t ⟨f, rt, bk, ct⟩ σ [.ref a] H := by
  refine ⟨a, xs, rfl, h, fun i m σ H => m = xs.length - i ∧ i ≤ xs.length ∧ Pv i σ H, ⟨xs.length, by simp, Nat.zero_le _, h0⟩, ?_⟩
  rintro i m σ H ⟨rfl, hi, p⟩
  have q := hl i σ H hi p
  by_cases hlt : i < xs.length
  · have hx : xs[i]? = some xs[i] := List.getElem?_eq_getElem hlt
    refine .inr ⟨⟨xs, _, q, hx⟩, Pv (i + 1), fun σ' H' p' => ⟨xs.length - (i + 1), by omega, rfl, hlt, p'⟩, fun v H' y => ?_⟩
    obtain ⟨T, x', rfl, hT, rfl, f1⟩ := y
    exact hs i x' σ H T _ (f1 xs q) p hT (Ex.new hT) upd_same
  · have e : i = xs.length := by omega
    subst e
    exact .inl ⟨⟨xs, q, Nat.le_refl _⟩, hd σ H p⟩
end
end BkG
end
section
namespace BkG
open PySem PySem.Spec L2
/-! ### words: what the program's words do, as numbers -/
def isIntg : PyData → Bool
  | .int _ => true
  | _ => false
def isWid : PyData → Bool
  | .int n => decide (1 ≤ n ∧ n ≤ 64)
  | _ => false
def isWord (w : Nat) : PyData → Bool
  | .int n => decide (0 ≤ n ∧ n < 2 ^ w)
  | _ => false
def Wd (w : Nat) (a : Int) : Prop := 0 ≤ a ∧ a < 2 ^ w
theorem pow_pos' (w : Nat) : (0 : Int) < 2 ^ w := by
  have h : (0 : Int) < ((2 ^ w : Nat) : Int) := by exact_mod_cast Nat.pow_pos (by decide)
  simpa using h
theorem pow_cast (w : Nat) : ((2 ^ w : Nat) : Int) = (2 : Int) ^ w := by simp
theorem Wd.mod (w : Nat) (a : Int) : Wd w (a % 2 ^ w) := ⟨Int.emod_nonneg _ (Int.ne_of_gt (pow_pos' w)), Int.emod_lt_of_pos _ (pow_pos' w)⟩
theorem Wd.small {w : Nat} {a : Int} (h : Wd w a) (hw : w ≤ 64) : a.natAbs < 2 ^ 64 := by
  have h1 : (2 : Int) ^ w ≤ 2 ^ 64 := by
    rw [← pow_cast, ← pow_cast]
    exact_mod_cast Nat.pow_le_pow_right (by decide) hw
  have := h.1
  have := h.2
  have e : (2 : Int) ^ 64 = ((2 ^ 64 : Nat) : Int) := by simp
  omega
theorem shl_ok {w : Nat} (hw : w ≤ 64) : CPow 1 (w : Int) := ⟨by omega, by omega, by decide⟩
/-- the word that undoes -/
def backOf (w : Nat) (n : Int) : Nat → Int
  | 0 => 1
  | k + 1 => (backOf w n k) * (2 - n * (backOf w n k)) % 2 ^ w
theorem backOf_wd {w : Nat} {n : Int} (hw : 1 ≤ w) : ∀ k, Wd w (backOf w n k)
  | 0 => by
    refine ⟨(by decide : (0 : Int) ≤ 1), ?_⟩
    show (1 : Int) < 2 ^ w
    have h : (2 : Int) ^ 1 ≤ 2 ^ w := by
      rw [← pow_cast, ← pow_cast]
      exact_mod_cast Nat.pow_le_pow_right (by decide) hw
    have e : (2 : Int) ^ 1 = 2 := by decide
    omega
  | k + 1 => Wd.mod w _
/-- after k turns it undoes n as far as k + 1 bits -/
theorem backOf_ok {w : Nat} {n : Int} (hn : n % 2 ≠ 0) : ∀ k, k + 1 ≤ w → ((2 : Int) ^ (k + 1)) ∣ (backOf w n k) * n - 1
  | 0, _ => by
    show (2 : Int) ^ 1 ∣ 1 * n - 1
    have e : (2 : Int) ^ 1 = 2 := by decide
    rw [e]; omega
  | k + 1, hk => by
    obtain ⟨c, hc⟩ := backOf_ok (w := w) hn k (by omega)
    have hm : backOf w n (k + 1) = (backOf w n k) * (2 - n * (backOf w n k)) % 2 ^ w := rfl
    obtain ⟨q, hq⟩ : ∃ q, backOf w n (k + 1) = (backOf w n k) * (2 - n * (backOf w n k)) - 2 ^ w * q := ⟨((backOf w n k) * (2 - n * (backOf w n k))) / 2 ^ w, by rw [hm, Int.emod_def]⟩
    rw [hq]
    generalize backOf w n k = f at *
    have e1 : (f * (2 - n * f) - 2 ^ w * q) * n - 1 = -((f * n - 1) * (f * n - 1)) - 2 ^ w * (q * n) := by
      rw [Int.sub_mul, Int.mul_sub, Int.sub_mul, Int.sub_mul, Int.mul_sub, Int.mul_sub]
      have a1 : f * 2 * n = 2 * (f * n) := by rw [Int.mul_comm f 2, Int.mul_assoc]
      have a2 : f * (n * f) * n = f * n * (f * n) := by rw [Int.mul_assoc f (n * f) n, Int.mul_assoc n f n, ← Int.mul_assoc f n (f * n)]
      have a3 : 2 ^ w * q * n = 2 ^ w * (q * n) := Int.mul_assoc _ _ _
      rw [a1, a2, a3]
      omega
    rw [e1, hc]
    have d1 : ((2 : Int) ^ (k + 1 + 1)) ∣ 2 ^ (k + 1) * c * (2 ^ (k + 1) * c) := by
      have : (2 : Int) ^ (k + 1) * c * (2 ^ (k + 1) * c) = 2 ^ (k + 1 + 1) * (2 ^ k * (c * c)) := by
        rw [Int.pow_succ (n := k + 1), Int.mul_assoc, Int.mul_left_comm c, ← Int.mul_assoc, ← Int.mul_assoc]
        rw [Int.pow_succ (n := k)]
        simp only [Int.mul_assoc, Int.mul_left_comm, Int.mul_comm]
      rw [this]; exact Int.dvd_mul_right _ _
    have d2 : ((2 : Int) ^ (k + 1 + 1)) ∣ 2 ^ w * (q * n) := by
      obtain ⟨r, hr⟩ : ∃ r, w = (k + 1 + 1) + r := ⟨w - (k + 1 + 1), by omega⟩
      rw [hr, Int.pow_add (n := r), Int.mul_assoc]
      exact Int.dvd_mul_right _ _
    exact Int.dvd_sub (Int.dvd_neg.mpr d1) d2
/-! ### what the program's words promise (nothing refused) -/
def spIntg : Sp := fun vs H Q _ => ∃ M v d, vs = [v] ∧ Dv M H v d ∧ Q (.bl (isIntg d)) H
def spWid : Sp := fun vs H Q _ => ∃ M v d, vs = [v] ∧ Dv M H v d ∧ Q (.bl (isWid d)) H
def spWordOf : Sp := fun vs H Q _ => ∃ (M : List Addr) (v : V) (d : PyData) (w : Nat), vs = [v, .int w] ∧ 1 ≤ w ∧ w ≤ 64 ∧ Dv M H v d ∧ Q (.bl (isWord w d)) H
def spChkW : Sp := fun vs H Q _ => ∃ (w : Nat) (x : V), vs = [.int w, x] ∧ 1 ≤ w ∧ w ≤ 64 ∧ Q .non H
def spChkWs (K : PySem.W.Frag) : Sp := fun vs H Q _ => ∃ (w : Nat) (t : Addr) (ns : List Int), vs = [.int w, .ref t] ∧ 1 ≤ w ∧ w ≤ 64 ∧ SqT K H t (ns.map V.int) ∧ (∀ n ∈ ns, Wd w n) ∧ ∀ H', Ex H H' → Q .non H'
def spBin (g : Nat → Int → Int → Int) : Sp := fun vs H Q _ => ∃ (w : Nat) (a b : Int), vs = [.int w, .int a, .int b] ∧ 1 ≤ w ∧ w ≤ 64 ∧ Wd w a ∧ Wd w b ∧ ∀ H', Ex H H' → Q (.int (g w a b)) H'
def spTimes : Sp := fun vs H Q _ => ∃ (w : Nat) (a b : Int), vs = [.int w, .int a, .int b] ∧ 1 ≤ w ∧ w ≤ 64 ∧ Wd w a ∧ b % 2 ≠ 0 ∧ b.natAbs < 2 ^ 4000 ∧ ∀ H', Ex H H' → Q (.int (a * b % 2 ^ w)) H'
def spBack : Sp := fun vs H Q _ => ∃ (w : Nat) (b : Int), vs = [.int w, .int b] ∧ 1 ≤ w ∧ w ≤ 64 ∧ b % 2 ≠ 0 ∧ b.natAbs < 2 ^ 4000 ∧ ∀ H', Ex H H' → Q (.int (backOf w b w)) H'
/-- the bits of a, p places up, round -/
def rotOf (w : Nat) (a : Int) (p : Nat) : Int := Builtin.bitOr (a * 2 ^ p) (a / 2 ^ (w - p)) % 2 ^ w
def spTurnBy : Sp := fun vs H Q _ => ∃ (w p : Nat) (a : Int), vs = [.int w, .int a, .int p] ∧ 1 ≤ w ∧ w ≤ 64 ∧ Wd w a ∧ p < w ∧ Q (.int (rotOf w a p)) H
def spTurn : Sp := fun vs H Q _ => ∃ (w : Nat) (a n : Int), vs = [.int w, .int a, .int n] ∧ 1 ≤ w ∧ w ≤ 64 ∧ Wd w a ∧ ∀ H', Ex H H' → Q (.int (rotOf w a (n % (w : Int)).toNat)) H'
theorem Dv.int' {H : Hp} (i : Int) : Dv [] H (.int i) (.int i) := .int i
end BkG
end
section
namespace BkG
open PySem PySem.Spec L2
/-! ### changes of words (k04), in plain Lean -/
structure Chg where
  at_ : Nat
  form : Nat
  isOf : Bool
  by_ : Int
def formV : Nat → Str
  | 0 => "plus" | 1 => "minus" | 2 => "mix" | 3 => "times" | _ => "turn"
/-- a change that may be drawn for m words of a width -/
structure Chg.Ok (w m : Nat) (c : Chg) : Prop where
  at_lt : c.at_ < m
  form_lt : c.form < 5
  odd : c.form = 3 → c.isOf = false ∧ c.by_ % 2 ≠ 0 ∧ c.by_.natAbs < 2 ^ 4000
  turn : c.form = 4 → c.isOf = false
  other : c.form < 3 → (c.isOf = true ∧ 0 ≤ c.by_ ∧ c.by_ < (m : Int) ∧ c.by_ ≠ (c.at_ : Int)) ∨ (c.isOf = false ∧ Wd w c.by_)
/-- what the word becomes -/
def Chg.new (w : Nat) (c : Chg) (one other : Int) (back : Bool) : Int :=
  if c.form = 0 then (if back then (one - other) % 2 ^ w else (one + other) % 2 ^ w)
  else if c.form = 1 then (if back then (one + other) % 2 ^ w else (one - other) % 2 ^ w)
  else if c.form = 2 then Builtin.bitXor one other
  else if c.form = 3 then one * (if back then backOf w other w else other) % 2 ^ w
  else rotOf w one ((if back then 0 - other else other) % (w : Int)).toNat
def Chg.oth (c : Chg) (ws : List Int) : Int := if c.isOf then ws.getD c.by_.toNat 0 else c.by_
def Chg.done (w : Nat) (c : Chg) (ws : List Int) (back : Bool) : List Int := ws.set c.at_ (c.new w (ws.getD c.at_ 0) (c.oth ws) back)
def Wds (w : Nat) (ws : List Int) : Prop := ∀ z ∈ ws, Wd w z
theorem or_nat (a b : Nat) : Builtin.bitOr (a : Int) (b : Int) = ((a ||| b : Nat) : Int) := by
  have h1 : ¬ (0 : Int) ≤ Builtin.bitNot (a : Int) := by unfold Builtin.bitNot; omega
  have h2 : ¬ (0 : Int) ≤ Builtin.bitNot (b : Int) := by unfold Builtin.bitNot; omega
  have e : ∀ n : Nat, (Builtin.bitNot (Builtin.bitNot (n : Int))).toNat = n := fun n => by unfold Builtin.bitNot; omega
  unfold Builtin.bitOr Builtin.bitAnd
  rw [decide_eq_false h1, decide_eq_false h2]
  show Builtin.bitNot (Builtin.bitNot _) = _
  rw [e, e]
  unfold Builtin.bitNot
  omega
theorem bit_split (x : Nat) : x = 2 * (x / 2) + (if x.testBit 0 = true then 1 else 0) := by
  rw [Nat.testBit_zero]
  by_cases h : x % 2 = 1
  · rw [decide_eq_true h, if_pos rfl]; omega
  · rw [decide_eq_false h, if_neg Bool.false_ne_true]; omega
theorem nat_or_and (a b : Nat) : a ||| b = (a ^^^ b) + (a &&& b) := by
  induction a using Nat.strongRecOn generalizing b with
  | _ a ih =>
    by_cases h0 : a = 0
    · subst h0; simp
    · have h := ih (a / 2) (by omega) (b / 2)
      have e1 := bit_split (a ||| b)
      have e2 := bit_split (a ^^^ b)
      have e3 := bit_split (a &&& b)
      rw [Nat.or_div_two, Nat.testBit_or] at e1
      rw [Nat.xor_div_two, Nat.testBit_xor] at e2
      rw [Nat.and_div_two, Nat.testBit_and] at e3
      cases ha : a.testBit 0 <;> cases hb : b.testBit 0 <;> rw [ha, hb] at e1 e2 e3 <;> simp at e1 e2 e3 <;> omega
theorem xor_nat (a b : Nat) : Builtin.bitXor (a : Int) (b : Int) = ((a ^^^ b : Nat) : Int) := by
  unfold Builtin.bitXor
  rw [or_nat, nat_or_and]
  have : Builtin.bitAnd (a : Int) (b : Int) = ((a &&& b : Nat) : Int) := by simp [Builtin.bitAnd]
  rw [this]
  omega
theorem Wd.nat {w : Nat} {a : Int} (h : Wd w a) : ∃ n : Nat, a = (n : Int) ∧ n < 2 ^ w := by
  refine ⟨a.toNat, (Int.toNat_of_nonneg h.1).symm, ?_⟩
  have h2 := h.2
  rw [← pow_cast] at h2
  have := h.1
  omega
theorem Wd.of_nat {w n : Nat} (h : n < 2 ^ w) : Wd w (n : Int) := ⟨by omega, by rw [← pow_cast]; exact_mod_cast h⟩
theorem xor_wd {w : Nat} {a b : Int} (ha : Wd w a) (hb : Wd w b) : Wd w (Builtin.bitXor a b) := by
  obtain ⟨x, rfl, hx⟩ := ha.nat
  obtain ⟨y, rfl, hy⟩ := hb.nat
  rw [xor_nat]
  exact .of_nat (Nat.xor_lt_two_pow hx hy)
theorem xor_back {w : Nat} {a b : Int} (ha : Wd w a) (hb : Wd w b) : Builtin.bitXor (Builtin.bitXor a b) b = a := by
  obtain ⟨x, rfl, hx⟩ := ha.nat
  obtain ⟨y, rfl, hy⟩ := hb.nat
  rw [xor_nat, xor_nat, Nat.xor_assoc, Nat.xor_self, Nat.xor_zero]
theorem sub_add_mod {w : Nat} {a b : Int} (ha : Wd w a) : ((a + b) % 2 ^ w - b) % 2 ^ w = a := by
  rw [Int.emod_sub_emod, show a + b - b = a by omega]
  exact Int.emod_eq_of_lt ha.1 ha.2
theorem add_sub_mod {w : Nat} {a b : Int} (ha : Wd w a) : ((a - b) % 2 ^ w + b) % 2 ^ w = a := by
  rw [Int.emod_add_emod, show a - b + b = a by omega]
  exact Int.emod_eq_of_lt ha.1 ha.2
theorem back_dvd {w : Nat} {n : Int} (hw : 1 ≤ w) (hn : n % 2 ≠ 0) : ((2 : Int) ^ w) ∣ backOf w n w * n - 1 := by
  -- the turns w - 1 undo n as far as w bits; one more turn keeps it
  obtain ⟨k, rfl⟩ : ∃ k, w = k + 1 := ⟨w - 1, by omega⟩
  obtain ⟨c, hc⟩ := backOf_ok (w := k + 1) hn k (Nat.le_refl _)
  have hm : backOf (k + 1) n (k + 1) = (backOf (k + 1) n k) * (2 - n * (backOf (k + 1) n k)) % 2 ^ (k + 1) := rfl
  obtain ⟨q, hq⟩ : ∃ q, backOf (k + 1) n (k + 1) = (backOf (k + 1) n k) * (2 - n * (backOf (k + 1) n k)) - 2 ^ (k + 1) * q := ⟨((backOf (k + 1) n k) * (2 - n * (backOf (k + 1) n k))) / 2 ^ (k + 1), by rw [hm, Int.emod_def]⟩
  rw [hq]
  generalize backOf (k + 1) n k = f at *
  have e1 : (f * (2 - n * f) - 2 ^ (k + 1) * q) * n - 1 = -((f * n - 1) * (f * n - 1)) - 2 ^ (k + 1) * (q * n) := by
    rw [Int.sub_mul, Int.mul_sub, Int.sub_mul, Int.sub_mul, Int.mul_sub, Int.mul_sub]
    have a1 : f * 2 * n = 2 * (f * n) := by rw [Int.mul_comm f 2, Int.mul_assoc]
    have a2 : f * (n * f) * n = f * n * (f * n) := by rw [Int.mul_assoc f (n * f) n, Int.mul_assoc n f n, ← Int.mul_assoc f n (f * n)]
    have a3 : 2 ^ (k + 1) * q * n = 2 ^ (k + 1) * (q * n) := Int.mul_assoc _ _ _
    rw [a1, a2, a3]
    omega
  rw [e1, hc]
  refine Int.dvd_sub (Int.dvd_neg.mpr ?_) (Int.dvd_mul_right _ _)
  rw [Int.mul_assoc]
  exact Int.dvd_mul_right _ _
theorem times_back {w : Nat} {a n : Int} (hw : 1 ≤ w) (ha : Wd w a) (hn : n % 2 ≠ 0) : a * n % 2 ^ w * backOf w n w % 2 ^ w = a := by
  obtain ⟨c, hc⟩ := back_dvd hw hn
  rw [Int.mul_emod, Int.emod_emod, ← Int.mul_emod, Int.mul_assoc, Int.mul_comm n, show backOf w n w * n = 1 + 2 ^ w * c by omega, Int.mul_add, Int.mul_one, Int.mul_left_comm, Int.add_mul_emod_self_left]
  exact Int.emod_eq_of_lt ha.1 ha.2
/-! rotations, by numbers -/
def rotN (w a p : Nat) : Nat := a * 2 ^ p % 2 ^ w + a / 2 ^ (w - p)
theorem rotOf_nat {w a p : Nat} (ha : a < 2 ^ w) (hp : p < w) : rotOf w (a : Int) p = (rotN w a p : Nat) := by
  unfold rotOf rotN
  have e1 : ((a : Int) * 2 ^ p) = ((a * 2 ^ p : Nat) : Int) := by rw [Int.natCast_mul, pow_cast]
  have e2 : ((a : Int) / 2 ^ (w - p)) = ((a / 2 ^ (w - p) : Nat) : Int) := by rw [Int.natCast_ediv, pow_cast]
  rw [e1, e2, or_nat, ← pow_cast, ← Int.natCast_emod]
  have hlow : a / 2 ^ (w - p) < 2 ^ p := by
    rw [Nat.div_lt_iff_lt_mul (Nat.pow_pos (by decide)), ← Nat.pow_add, show p + (w - p) = w by omega]
    exact ha
  have e3 : a * 2 ^ p ||| a / 2 ^ (w - p) = a * 2 ^ p + a / 2 ^ (w - p) := by
    have h := Nat.shiftLeft_add_eq_or_of_lt hlow a
    rw [Nat.shiftLeft_eq] at h
    exact h.symm
  rw [e3]
  congr 1
  -- (a * 2^p + r) % 2^w = a * 2^p % 2^w + r, r < 2^p
  have hdv : 2 ^ w = 2 ^ p * 2 ^ (w - p) := by rw [← Nat.pow_add, show p + (w - p) = w by omega]
  have hmm : a * 2 ^ p % 2 ^ w = 2 ^ p * (a % 2 ^ (w - p)) := by rw [Nat.mul_comm a, hdv, Nat.mul_mod_mul_left]
  have hlt : 2 ^ p * (a % 2 ^ (w - p)) + a / 2 ^ (w - p) < 2 ^ w := by
    have h1 : a % 2 ^ (w - p) < 2 ^ (w - p) := Nat.mod_lt _ (Nat.pow_pos (by decide))
    have h2 : 2 ^ p * (a % 2 ^ (w - p) + 1) ≤ 2 ^ p * 2 ^ (w - p) := Nat.mul_le_mul_left _ h1
    rw [← hdv, Nat.mul_add] at h2
    omega
  rw [Nat.add_mod, hmm, Nat.mod_eq_of_lt (a := a / 2 ^ (w - p)) (by
    have h4 : 2 ^ p ≤ 2 ^ w := Nat.pow_le_pow_right (by decide) (by omega)
    omega), Nat.mod_eq_of_lt hlt]
theorem rotN_eq {w a p : Nat} (hp : p < w) : rotN w a p = 2 ^ p * (a % 2 ^ (w - p)) + a / 2 ^ (w - p) := by
  unfold rotN
  have hdv : 2 ^ w = 2 ^ p * 2 ^ (w - p) := by rw [← Nat.pow_add, show p + (w - p) = w by omega]
  rw [Nat.mul_comm a, hdv, Nat.mul_mod_mul_left]
theorem rotN_lt {w a p : Nat} (ha : a < 2 ^ w) (hp : p < w) : rotN w a p < 2 ^ w := by
  rw [rotN_eq hp]
  have hdv : 2 ^ w = 2 ^ p * 2 ^ (w - p) := by rw [← Nat.pow_add, show p + (w - p) = w by omega]
  have hlow : a / 2 ^ (w - p) < 2 ^ p := by
    rw [Nat.div_lt_iff_lt_mul (Nat.pow_pos (by decide)), ← Nat.pow_add, show p + (w - p) = w by omega]
    exact ha
  have h1 : a % 2 ^ (w - p) < 2 ^ (w - p) := Nat.mod_lt _ (Nat.pow_pos (by decide))
  have h2 : 2 ^ p * (a % 2 ^ (w - p) + 1) ≤ 2 ^ p * 2 ^ (w - p) := Nat.mul_le_mul_left _ h1
  rw [← hdv, Nat.mul_add] at h2
  omega
theorem rotN_back {w a p : Nat} (ha : a < 2 ^ w) (hp0 : 0 < p) (hp : p < w) : rotN w (rotN w a p) (w - p) = a := by
  have hlow : a / 2 ^ (w - p) < 2 ^ p := by
    rw [Nat.div_lt_iff_lt_mul (Nat.pow_pos (by decide)), ← Nat.pow_add, show p + (w - p) = w by omega]
    exact ha
  rw [rotN_eq (p := w - p) (by omega), show w - (w - p) = p by omega, rotN_eq hp]
  have h1 : (2 ^ p * (a % 2 ^ (w - p)) + a / 2 ^ (w - p)) % 2 ^ p = a / 2 ^ (w - p) := by
    rw [Nat.mul_add_mod, Nat.mod_eq_of_lt hlow]
  have h2 : (2 ^ p * (a % 2 ^ (w - p)) + a / 2 ^ (w - p)) / 2 ^ p = a % 2 ^ (w - p) := by
    rw [Nat.mul_add_div (Nat.pow_pos (by decide)), Nat.div_eq_of_lt hlow, Nat.add_zero]
  rw [h1, h2]
  exact Nat.div_add_mod a (2 ^ (w - p))
theorem rotN_zero {w a : Nat} (ha : a < 2 ^ w) : rotN w a 0 = a := by
  unfold rotN
  rw [Nat.pow_zero, Nat.mul_one, Nat.mod_eq_of_lt ha, Nat.sub_zero, Nat.div_eq_of_lt ha, Nat.add_zero]
theorem rot_wd {w : Nat} {a : Int} {p : Nat} (ha : Wd w a) (hp : p < w) : Wd w (rotOf w a p) := by
  obtain ⟨x, rfl, hx⟩ := ha.nat
  rw [rotOf_nat hx hp]
  exact .of_nat (rotN_lt hx hp)
theorem rot_back {w : Nat} {a n : Int} (hw : 1 ≤ w) (ha : Wd w a) : rotOf w (rotOf w a (n % (w : Int)).toNat) ((0 - n) % (w : Int)).toNat = a := by
  obtain ⟨x, rfl, hx⟩ := ha.nat
  have m0 : 0 ≤ n % (w : Int) := Int.emod_nonneg _ (by omega)
  have m1 : n % (w : Int) < w := Int.emod_lt_of_pos _ (by omega)
  have hp : (n % (w : Int)).toNat < w := by omega
  have k0 : 0 ≤ (0 - n) % (w : Int) := Int.emod_nonneg _ (by omega)
  have k1 : (0 - n) % (w : Int) < w := Int.emod_lt_of_pos _ (by omega)
  rw [rotOf_nat hx hp, rotOf_nat (rotN_lt hx hp) (by omega)]
  congr 1
  by_cases h0 : n % (w : Int) = 0
  · have e : (0 - n) % (w : Int) = 0 := by
      rw [Int.zero_sub]
      exact Int.emod_eq_zero_of_dvd (Int.dvd_neg.mpr (Int.dvd_of_emod_eq_zero h0))
    rw [h0, e]
    show rotN w (rotN w x 0) 0 = x
    rw [rotN_zero hx, rotN_zero hx]
  · have e : (0 - n) % (w : Int) = w - n % (w : Int) := by
      have h1 : (0 - n) % (w : Int) = (w - n % (w : Int)) % (w : Int) := by
        rw [Int.sub_emod_emod]
        have : (w : Int) - n = (0 - n) + w := by omega
        rw [this]; simp
      rw [h1]
      exact Int.emod_eq_of_lt (by omega) (by omega)
    rw [e, show ((w : Int) - n % (w : Int)).toNat = w - (n % (w : Int)).toNat by omega]
    exact rotN_back hx (by omega) hp
theorem getD_set_self {l : List Int} {i : Nat} {x : Int} (h : i < l.length) : (l.set i x).getD i 0 = x := by
  rw [List.getD_eq_getElem?_getD, List.getElem?_set_self h]; rfl
theorem getD_set_ne {l : List Int} {i j : Nat} {x : Int} (h : i ≠ j) : (l.set i x).getD j 0 = l.getD j 0 := by
  rw [List.getD_eq_getElem?_getD, List.getElem?_set_ne h, List.getD_eq_getElem?_getD]
theorem set_getD_self {l : List Int} {i : Nat} (h : i < l.length) : l.set i (l.getD i 0) = l := by
  rw [List.getD_eq_getElem?_getD, List.getElem?_eq_getElem h]
  exact List.set_getElem_self h
theorem Wds.getD {w : Nat} {l : List Int} {i : Nat} (h : Wds w l) (hi : i < l.length) : Wd w (l.getD i 0) := by
  rw [List.getD_eq_getElem?_getD, List.getElem?_eq_getElem hi]
  exact h _ (List.getElem_mem hi)
theorem Chg.Ok.oth_wd {w : Nat} {c : Chg} {ws : List Int} (ok : c.Ok w ws.length) (h : Wds w ws) (hf : c.form < 3) : Wd w (c.oth ws) := by
  unfold Chg.oth
  rcases ok.other hf with ⟨e, h0, h1, _⟩ | ⟨e, hb⟩
  · rw [e, if_pos rfl]; exact h.getD (by omega)
  · rw [e, if_neg Bool.false_ne_true]; exact hb
theorem Chg.Ok.new_wd {w : Nat} {c : Chg} {ws : List Int} {back : Bool} (hw : 1 ≤ w) (ok : c.Ok w ws.length) (h : Wds w ws) : Wd w (c.new w (ws.getD c.at_ 0) (c.oth ws) back) := by
  have h1 := h.getD ok.at_lt
  unfold Chg.new
  split
  · cases back <;> exact Wd.mod _ _
  · split
    · cases back <;> exact Wd.mod _ _
    · split
      · exact xor_wd h1 (ok.oth_wd h (by omega))
      · split
        · exact Wd.mod _ _
        · have m1 : (if back = true then 0 - c.oth ws else c.oth ws) % (w : Int) < w := Int.emod_lt_of_pos _ (by omega)
          have m0 : 0 ≤ (if back = true then 0 - c.oth ws else c.oth ws) % (w : Int) := Int.emod_nonneg _ (by omega)
          exact rot_wd h1 (by omega)
theorem Chg.done_len {w : Nat} {c : Chg} {ws : List Int} {back : Bool} : (c.done w ws back).length = ws.length := by unfold Chg.done; rw [List.length_set]
theorem Chg.Ok.done_wd {w : Nat} {c : Chg} {ws : List Int} {back : Bool} (hw : 1 ≤ w) (ok : c.Ok w ws.length) (h : Wds w ws) : Wds w (c.done w ws back) := by
  intro z hz
  unfold Chg.done at hz
  rcases List.mem_or_eq_of_mem_set hz with h1 | h1
  · exact h z h1
  · rw [h1]; exact ok.new_wd hw h
theorem Chg.Ok.new_back {w : Nat} {c : Chg} {ws : List Int} (hw : 1 ≤ w) (ok : c.Ok w ws.length) (h : Wds w ws) :
    c.new w (c.new w (ws.getD c.at_ 0) (c.oth ws) false) (c.oth ws) true = ws.getD c.at_ 0 := by
  have h1 := h.getD ok.at_lt
  unfold Chg.new
  by_cases f0 : c.form = 0
  · rw [if_pos f0, if_pos f0]; exact sub_add_mod h1
  rw [if_neg f0, if_neg f0]
  by_cases f1 : c.form = 1
  · rw [if_pos f1, if_pos f1]; exact add_sub_mod h1
  rw [if_neg f1, if_neg f1]
  by_cases f2 : c.form = 2
  · rw [if_pos f2, if_pos f2]; exact xor_back h1 (ok.oth_wd h (by omega))
  rw [if_neg f2, if_neg f2]
  by_cases f3 : c.form = 3
  · rw [if_pos f3, if_pos f3]
    obtain ⟨e, ho, _⟩ := ok.odd f3
    have eo : c.oth ws = c.by_ := by unfold Chg.oth; rw [e, if_neg Bool.false_ne_true]
    rw [eo]
    exact times_back hw h1 ho
  · rw [if_neg f3, if_neg f3]
    exact rot_back hw h1
theorem Chg.Ok.back {w : Nat} {c : Chg} {ws : List Int} (hw : 1 ≤ w) (ok : c.Ok w ws.length) (h : Wds w ws) : c.done w (c.done w ws false) true = ws := by
  have hl := ok.at_lt
  have eo : c.oth (c.done w ws false) = c.oth ws := by
    unfold Chg.oth
    by_cases e : c.isOf = true
    · rw [if_pos e, if_pos e]
      have hf : c.form < 3 := by
        have h5 := ok.form_lt
        by_cases f3 : c.form = 3
        · rw [(ok.odd f3).1] at e; cases e
        · by_cases f4 : c.form = 4
          · rw [ok.turn f4] at e; cases e
          · omega
      rcases ok.other hf with ⟨_, h0, h1, h2⟩ | ⟨e', _⟩
      · exact getD_set_ne (by omega)
      · rw [e'] at e; cases e
    · rw [if_neg e, if_neg e]
  have e1 : (c.done w ws false).getD c.at_ 0 = c.new w (ws.getD c.at_ 0) (c.oth ws) false := getD_set_self hl
  show (c.done w ws false).set c.at_ (c.new w ((c.done w ws false).getD c.at_ 0) (c.oth (c.done w ws false)) true) = ws
  rw [eo, e1, ok.new_back hw h]
  unfold Chg.done
  rw [List.set_set]
  exact set_getD_self hl
/-! rows of changes -/
def doneAll (w : Nat) (cs : List Chg) (ws : List Int) : List Int := cs.foldl (fun l c => c.done w l false) ws
theorem doneAll_inj {w m : Nat} (hw : 1 ≤ w) : ∀ (cs : List Chg) (ws us : List Int), (∀ c ∈ cs, c.Ok w m) → ws.length = m → us.length = m → Wds w ws → Wds w us → doneAll w cs ws = doneAll w cs us → ws = us
  | [], ws, us, _, _, _, _, _, e => e
  | c :: cs, ws, us, ok, lw, lu, hws, hus, e => by
    have o1 : c.Ok w ws.length := by rw [lw]; exact ok c List.mem_cons_self
    have o2 : c.Ok w us.length := by rw [lu]; exact ok c List.mem_cons_self
    have ih := doneAll_inj hw cs (c.done w ws false) (c.done w us false) (fun d hd => ok d (List.mem_cons_of_mem _ hd)) (by rw [Chg.done_len, lw]) (by rw [Chg.done_len, lu]) (o1.done_wd hw hws) (o2.done_wd hw hus) e
    rw [← o1.back hw hws, ← o2.back hw hus, ih]
theorem doneAll_wd {w m : Nat} (hw : 1 ≤ w) : ∀ (cs : List Chg) (ws : List Int), (∀ c ∈ cs, c.Ok w m) → ws.length = m → Wds w ws → Wds w (doneAll w cs ws) ∧ (doneAll w cs ws).length = m
  | [], ws, _, lw, h => ⟨h, lw⟩
  | c :: cs, ws, ok, lw, h => by
    have o1 : c.Ok w ws.length := by rw [lw]; exact ok c List.mem_cons_self
    exact doneAll_wd hw cs (c.done w ws false) (fun d hd => ok d (List.mem_cons_of_mem _ hd)) (by rw [Chg.done_len, lw]) (o1.done_wd hw h)
/-! a change on the heap -/
def tagV : Bool → Str
  | true => "of"
  | false => "is"
def RC (H : Hp) (v : V) (c : Chg) : Prop := ∃ p q, v = .ref p ∧ H p = some (.tup [.int (c.at_ : Int), .str (formV c.form), .ref q]) ∧ H q = some (.tup [.str (tagV c.isOf), .int c.by_])
def spDone : Sp := fun vs H Q _ => ∃ (w : Nat) (l : Addr) (ws : List Int) (v : V) (c : Chg) (back : Bool), vs = [.int w, .ref l, v, .bl back] ∧ 1 ≤ w ∧ w ≤ 64 ∧ H l = some (.lst (ws.map V.int)) ∧ ws.length ≤ 1000 ∧ Wds w ws ∧ RC H v c ∧ c.Ok w ws.length ∧
  ∀ p H', H p = none → Ex H H' → H' p = some (.lst ((c.done w ws back).map V.int)) → Q (.ref p) H'
def spChange : Sp := fun vs H Q _ => ∃ (D L : Addr) (w m : Nat), vs = [.ref D, .int w, .int m] ∧ 1 ≤ w ∧ w ≤ 64 ∧ 1 ≤ m ∧ m ≤ 1000 ∧ Deal H D L ∧
  ∀ (c : Chg) (v : V) (H' : Hp), c.Ok w m → RC H' v c → Deal H' D L → Kp [D, L] H H' → Q v H'
theorem r_in {K : PySem.W.Frag} {H : Hp} {Q : VK} {x : V} {p : Addr} {xs : List V} (h : SqL K H p xs ∨ SqT K H p xs) (hx : flatV x = true) (ha : xs.all flatV = true) (q : Q (.bl (inV x xs)) H) : rIn K false x (.ref p) H Q := ⟨p, xs, rfl, h, hx, ha, q⟩
theorem r_notin {K : PySem.W.Frag} {H : Hp} {Q : VK} {x : V} {p : Addr} {xs : List V} (h : SqL K H p xs ∨ SqT K H p xs) (hx : flatV x = true) (ha : xs.all flatV = true) (q : Q (.bl (!inV x xs)) H) : rIn K true x (.ref p) H Q := ⟨p, xs, rfl, h, hx, ha, q⟩
theorem atI_getD {ws : List Int} {z : Int} (h0 : 0 ≤ z) (h1 : z < (ws.length : Int)) : atI (ws.map V.int) z = some (.int (ws.getD z.toNat 0)) := by
  obtain ⟨x, e, e'⟩ := atI_of (xs := ws.map V.int) h0 (by rw [List.length_map]; exact h1)
  obtain ⟨y, hy, rfl⟩ := map_some e'
  rw [e, List.getD_eq_getElem?_getD, hy]; rfl
theorem cut_from {xs : List V} {k : Nat} (h : k ≤ xs.length) : cutV xs (some (k : Int)) none = xs.drop k := by
  unfold cutV
  rw [HT.sIx_none, HT.sIx_nat, Nat.min_eq_left h]
  exact List.take_of_length_le (by rw [List.length_drop]; omega)
theorem done_list {w : Nat} {c : Chg} {ws : List Int} {back : Bool} (h : c.at_ < ws.length) : (c.done w ws back).map V.int = (ws.map V.int).take c.at_ ++ [V.int (c.new w (ws.getD c.at_ 0) (c.oth ws) back)] ++ (ws.map V.int).drop (c.at_ + 1) := by
  unfold Chg.done
  rw [List.set_eq_take_append_cons_drop, if_pos h, List.map_append, List.map_cons, List.map_take, List.map_drop]
  simp
end BkG
end
section
namespace BkG
open PySem PySem.Spec L2
/-! ### tuples stay -/
def Kt (H H' : Hp) : Prop := ∀ a xs, H a = some (.tup xs) → H' a = some (.tup xs)
theorem Kt.of_ex {H H' : Hp} (e : Ex H H') : Kt H H' := fun a xs h => e a _ h
theorem Kt.trans {H H1 H2 : Hp} (a : Kt H H1) (b : Kt H1 H2) : Kt H H2 := fun x xs h => b x xs (a x xs h)
theorem Deal.notup {H : Hp} {D L p : Addr} {xs : List V} (d : Deal H D L) (h : H p = some (.tup xs)) : p ≠ D ∧ p ≠ L := by
  obtain ⟨st, b, d⟩ := d
  exact ⟨fun e => (by rw [e, d.hD] at h; cases h), fun e => (by rw [e, d.hL] at h; cases h)⟩
theorem Kt.of_kp {H H' : Hp} {D L : Addr} (k : Kp [D, L] H H') (d : Deal H D L) : Kt H H' := fun a xs h => by
  obtain ⟨n1, n2⟩ := d.notup h
  exact k _ _ h (by simp [n1, n2])
theorem Kt.of_kp1 {H H' : Hp} {S : Addr} {xs : List V} (k : Kp [S] H H') (hS : H S = some (.lst xs)) : Kt H H' := fun a ys h => by
  refine k _ _ h ?_
  simp only [List.mem_singleton]
  intro e; rw [e, hS] at h; cases h
theorem Kt.of_mut {H H' : Hp} {S : Addr} {xs : List V} (k : ∀ a o, a ≠ S → H a = some o → H' a = some o) (hS : H S = some (.lst xs)) : Kt H H' := fun a ys h => k _ _ (fun e => by rw [e, hS] at h; cases h) h
theorem RC.kt {H H' : Hp} {v : V} {c : Chg} (h : RC H v c) (k : Kt H H') : RC H' v c := let ⟨p, q, e, h1, h2⟩ := h; ⟨p, q, e, k _ _ h1, k _ _ h2⟩
def RCs (H : Hp) (vs : List V) (cs : List Chg) : Prop := vs.length = cs.length ∧ ∀ (i : Nat) (v : V) (c : Chg), vs[i]? = some v → cs[i]? = some c → RC H v c
theorem RCs.kt {H H' : Hp} {vs : List V} {cs : List Chg} (h : RCs H vs cs) (k : Kt H H') : RCs H' vs cs := ⟨h.1, fun i v c a b => (h.2 i v c a b).kt k⟩
theorem RCs.snoc {H : Hp} {vs : List V} {cs : List Chg} {v : V} {c : Chg} (h : RCs H vs cs) (r : RC H v c) : RCs H (vs ++ [v]) (cs ++ [c]) := by
  refine ⟨by simp [h.1], fun i x y hx hy => ?_⟩
  by_cases hi : i < vs.length
  · rw [List.getElem?_append_left hi] at hx
    rw [List.getElem?_append_left (by rw [← h.1]; exact hi)] at hy
    exact h.2 i x y hx hy
  · rw [List.getElem?_append_right (by omega)] at hx
    rw [List.getElem?_append_right (by rw [← h.1]; omega)] at hy
    rw [h.1] at hx
    rcases hz : i - cs.length with _ | z
    · rw [hz] at hx hy; cases hx; cases hy; exact r
    · rw [hz] at hx; cases hx
theorem Deal.kp1 {H H' : Hp} {D L S : Addr} (d : Deal H D L) (k : Kp [S] H H') (n1 : S ≠ D) (n2 : S ≠ L) : Deal H' D L := by
  obtain ⟨st, b, d⟩ := d
  exact ⟨st, b, k _ _ d.hD (by simpa using fun e => n1 e.symm), k _ _ d.hL (by simpa using fun e => n2 e.symm), d.len, d.all, d.b0, d.b1⟩
theorem Deal.kpm {H H' : Hp} {D L S : Addr} (d : Deal H D L) (k : ∀ a o, a ≠ S → H a = some o → H' a = some o) (n1 : S ≠ D) (n2 : S ≠ L) : Deal H' D L := by
  obtain ⟨st, b, d⟩ := d
  exact ⟨st, b, k _ _ (fun e => n1 e.symm) d.hD, k _ _ (fun e => n2 e.symm) d.hL, d.len, d.all, d.b0, d.b1⟩
theorem Deal.fresh {H : Hp} {D L p : Addr} (h : Deal H D L) (hp : H p = none) : p ≠ D ∧ p ≠ L := by
  obtain ⟨st, b, d⟩ := h
  exact ⟨fun e => (by rw [e, d.hD] at hp; cases hp), fun e => (by rw [e, d.hL] at hp; cases hp)⟩
/-! ### rows of changes, turn by turn -/
theorem doneAll_more {w : Nat} {cs : List Chg} {c : Chg} {ws : List Int} : doneAll w (cs ++ [c]) ws = c.done w (doneAll w cs ws) false := by
  unfold doneAll; rw [List.foldl_append]; rfl
theorem doneAll_take {w i : Nat} {cs : List Chg} {c : Chg} {ws : List Int} (h : cs[i]? = some c) : doneAll w (cs.take (i + 1)) ws = c.done w (doneAll w (cs.take i) ws) false := by
  rw [take_more h, doneAll_more]
/-! ### ints, equal lists -/
theorem eqv_ints : ∀ ns : List Int, PyData.eqv (.list (ns.map PyData.int)) (.list (ns.map PyData.int)) = true := by
  have h : ∀ ns : List Int, PyData.eqvAll (ns.map PyData.int) (ns.map PyData.int) = true := by
    intro ns
    induction ns with
    | nil => rfl
    | cons n r ih => simp only [List.map_cons, PyData.eqvAll, ih, Bool.and_true]; simp [PyData.eqv]
  intro ns
  simp only [PyData.eqv]; exact h ns
theorem okD_ints {ns : List Int} {k : Nat} (h : ns.length ≤ 90000) : okD (k + 1) (.list (ns.map PyData.int)) = true := by
  simp only [okD, Bool.and_eq_true, decide_eq_true_eq, List.all_eq_true, List.length_map]
  refine ⟨h, fun x hx => ?_⟩
  obtain ⟨n, _, rfl⟩ := List.mem_map.mp hx
  cases k <;> rfl
theorem dv_ints {M : List Addr} {H : Hp} {a : Addr} {ns : List Int} (h : H a = some (.lst (ns.map V.int))) (n : a ∉ M) : Dv M H (.ref a) (.list (ns.map PyData.int)) := by
  refine .lst h n (by simp) fun i v d h1 h2 => ?_
  obtain ⟨x, e1, rfl⟩ := map_some h1
  obtain ⟨y, e2, rfl⟩ := map_some h2
  rw [e1] at e2; cases e2; exact .int x
/-- a list of n different numbers below n, sorted, counts -/
theorem sorted_range {n : Nat} {ys : List Int} (hl : ys.length = n) (hn : ys.Nodup) (hs : ys.Pairwise (· ≤ ·)) (hb : ∀ y ∈ ys, 0 ≤ y ∧ y < (n : Int)) : ys = (List.range n).map fun i : Nat => (i : Int) := by
  have hlt : ∀ (i : Nat) (hi : i < ys.length) (j : Nat) (hj : j < ys.length), i < j → ys[i] < ys[j] := fun i hi j hj hij => by
    have h1 := List.pairwise_iff_getElem.mp hs i j hi hj hij
    have h2 := List.pairwise_iff_getElem.mp hn i j hi hj hij
    omega
  have low : ∀ (i : Nat) (hi : i < ys.length), (i : Int) ≤ ys[i] := by
    intro i
    induction i with
    | zero => intro hi; exact (hb _ (List.getElem_mem hi)).1
    | succ i ih =>
      intro hi
      have h1 := ih (by omega)
      have h2 := hlt i (by omega) (i + 1) hi (by omega)
      omega
  have high : ∀ (k i : Nat) (hi : i < ys.length), i + k + 1 = ys.length → ys[i] ≤ (i : Int) := by
    intro k
    induction k with
    | zero => intro i hi e; have h := (hb _ (List.getElem_mem hi)).2; omega
    | succ k ih =>
      intro i hi e
      have h1 := ih (i + 1) (by omega) (by omega)
      have h2 := hlt i hi (i + 1) (by omega) (by omega)
      omega
  refine List.ext_getElem (by simp [hl]) fun i h1 h2 => ?_
  have a := low i h1
  have b := high (ys.length - i - 1) i h1 (by omega)
  simp only [List.getElem_map, List.getElem_range]
  omega
theorem sorted_image {n : Nat} {f : Nat → Int} {ys : List Int} (hp : ys.Perm ((List.range n).map f)) (hs : ys.Pairwise (· ≤ ·)) (hb : ∀ j, j < n → 0 ≤ f j ∧ f j < (n : Int)) (inj : ∀ j k, j < n → k < n → f j = f k → j = k) : ys = (List.range n).map fun i : Nat => (i : Int) := by
  refine sorted_range ?_ ?_ hs fun y hy => ?_
  · rw [hp.length_eq, List.length_map, List.length_range]
  · refine hp.nodup_iff.mpr (List.pairwise_map.mpr ?_)
    refine List.Pairwise.imp_of_mem (fun {a b} ha hb hne e => hne (inj a b (List.mem_range.mp ha) (List.mem_range.mp hb) e)) List.nodup_range
  · obtain ⟨j, hj, rfl⟩ := List.mem_map.mp (hp.mem_iff.mp hy)
    exact hb j (List.mem_range.mp hj)
theorem Kt.of_kpD {H H' : Hp} {S : Addr} {kvs : List (Key × V)} (k : Kp [S] H H') (hS : H S = some (.dK kvs)) : Kt H H' := fun a ys h => by
  refine k _ _ h ?_
  simp only [List.mem_singleton]
  intro e; rw [e, hS] at h; cases h
theorem one_list {l : List Int} (h : l.length = 1) : l = [l.getD 0 0] := by
  match l, h with
  | [x], _ => rfl
theorem rgV_nat {n : Nat} : rgV 0 (n : Int) = ((List.range n).map fun i : Nat => (i : Int)).map V.int := by
  unfold rgV
  rw [show ((n : Int) - 0).toNat = n by omega, List.map_map]
  refine List.map_congr_left fun i _ => ?_
  show V.int (0 + (i : Int)) = V.int (i : Int)
  rw [Int.zero_add]
theorem atI_last_get {α : Type} {xs : List α} (h : 0 < xs.length) : atI xs (-1) = xs[xs.length - 1]? := by
  unfold atI ixN
  rw [if_neg (by omega), if_pos (by omega)]
  show xs[(-1 + (xs.length : Int)).toNat]? = _
  rw [show (-1 + (xs.length : Int)).toNat = xs.length - 1 by omega]
theorem ty_and {A B : Prop} (a : A) (b : B) : A ∧ B := ⟨a, b⟩
/-! ### dicts with keys of ints -/
theorem putK_new {kvs : List (Key × V)} {ks : List Int} {k : Int} {v : V} (h : kvs.map (·.1) = ks.map Sum.inl) (n : k ∉ ks) : putK kvs (Sum.inl k) v = kvs ++ [(Sum.inl k, v)] := by
  unfold putK
  rw [if_neg]
  intro e
  obtain ⟨kv, hkv, e'⟩ := List.any_eq_true.mp e
  have e2 : kv.1 = Sum.inl k := of_decide_eq_true e'
  have h2 : kv.1 ∈ kvs.map (·.1) := List.mem_map.mpr ⟨kv, hkv, rfl⟩
  rw [h, e2] at h2
  obtain ⟨z, hz, e3⟩ := List.mem_map.mp h2
  cases e3
  exact n hz
section
variable {K : PySem.W.Frag} {σ : St} {H : Hp} {Q : VK} {f bk ct : St → Hp → Prop} {rt : VK} {td ty tv : TE}
theorem w_dnewK (q : ∀ p H2, H p = none → Ex H H2 → H2 p = some (.dK []) → Q (.ref p) H2) : tDNewK σ H Q := fun p hp => q p _ hp (Ex.new hp) upd_same
def kPut (td ty : TE) (D : Ends) (σ : St) : VK := fun v H1 => td σ H1 fun x H2 => ty σ H2 fun y H3 => ∃ a H4, x = .ref a ∧ DPut H3 a y v H4 ∧ D.nx σ H4
theorem w_dput (h : tv σ H fun v H1 => td σ H1 fun x H2 => ty σ H2 fun y H3 => ∃ a H4, x = .ref a ∧ DPut H3 a y v H4 ∧ f σ H4) : sDPut td ty tv ⟨f, rt, bk, ct⟩ σ H := h
theorem put_ok {a : Addr} {kvs : List (Key × V)} {k : Int} {v : V} {F : Hp → Prop} (h : H a = some (.dK kvs)) (hl : kvs.length < 100000) (q : ∀ H2, Kp [a] H H2 → H2 a = some (.dK (putK kvs (Sum.inl k) v)) → F H2) : ∃ b H4, V.ref a = .ref b ∧ DPut H b (.int k) v H4 ∧ F H4 :=
  ⟨a, _, rfl, DPut.k (k := Sum.inl k) h (sz_lt hl), q _ (fun x o hx n => by rw [upd_ne (by simpa using n)]; exact hx) upd_same⟩
def kRg (Q : VK) : VK := fun x H1 => ∃ n, x = .int n ∧ RgOk 0 n ∧ ∀ q, H1 q = none → Q (.ref q) (upd H1 q (.lst (rgV 0 n)))
theorem w_lstRg {te : TE} (h : te σ H (kRg Q)) : tLstRg (tRg1 te) σ H Q := h
theorem k_rg {n : Nat} (hn : n ≤ 16777216) (q : ∀ p H2, H p = none → Ex H H2 → H2 p = some (.lst (((List.range n).map fun i : Nat => (i : Int)).map V.int)) → Q (.ref p) H2) : kRg Q (.int (n : Int)) H :=
  ⟨_, rfl, RgOk.of_le (by omega) (by omega) (by omega) (by omega), fun p hp => q p _ hp (Ex.new hp) (by rw [rgV_nat]; exact upd_same)⟩
end
end BkG
end
section
namespace PySem
namespace BkZip
open Sem (wp)
section
variable {prog : Program} {w : World} {A : Around} {E : Value → Shared → Prop} {s : Shared}
theorem max_intTup {l : Addr} {xs : Array (Int × Tok)} {Q : Value → Shared → Prop} (hh : A.handled = none) (hl : s.heap.IsTuple l (intItems xs)) (hll : l < s.heap.objs.size) (hne : 0 < xs.size)
    (h : ∀ v h' tk, (intItems xs)[argBest (fun i j => decide (numAt xs i > numAt xs j)) (xs.size - 1)]? = some v → (∀ b o, s.heap.get? b = some o → h'.get? b = some o) → Q v { s with heap := h', toks := tk }) :
    wpAny (model prog w) A (call (.builtin "max") [.ref l]) Q E s := by
  refine call_max_walk (wpAny_pyIter_tuple hl ?_)
  refine ⟨_, [_, l], [_], _, _, _, _, rfl, Walks.tuple (A := A.in1) hh _ l (Nat.ne_of_lt hll) (intItems xs),
    ⟨⟨_, Heap.get?_push_size _ rfl, rfl, rfl⟩, hl.push _⟩, fun c hc => ?_, by simpa [intItems] using hne, CmpOf.ints_gt (numAt xs) (fun _ _ => intItems_at), fun v h' tk hP hk => ?_⟩
  · show c < (s.heap.push _).objs.size
    rw [Heap.size_push]
    rcases List.mem_cons.mp hc with rfl | hc
    · exact Nat.lt_succ_self _
    · rcases List.mem_cons.mp hc with rfl | hc
      · exact Nat.lt_succ_of_lt hll
      · cases hc
  · refine h v h' tk (by simpa [intItems] using hP) fun b o e => hk b o (fun hm => ?_) (Heap.get?_push_of_some _ e)
    have e2 := List.mem_singleton.mp hm
    have h3 := Heap.lt_size e
    rw [e2] at h3
    exact absurd h3 (Nat.lt_irrefl _)
theorem min_intTup {l : Addr} {xs : Array (Int × Tok)} {Q : Value → Shared → Prop} (hh : A.handled = none) (hl : s.heap.IsTuple l (intItems xs)) (hll : l < s.heap.objs.size) (hne : 0 < xs.size)
    (h : ∀ v h' tk, (intItems xs)[argBest (fun i j => decide (numAt xs i < numAt xs j)) (xs.size - 1)]? = some v → (∀ b o, s.heap.get? b = some o → h'.get? b = some o) → Q v { s with heap := h', toks := tk }) :
    wpAny (model prog w) A (call (.builtin "min") [.ref l]) Q E s := by
  refine call_min_walk (wpAny_pyIter_tuple hl ?_)
  refine ⟨_, [_, l], [_], _, _, _, _, rfl, Walks.tuple (A := A.in1) hh _ l (Nat.ne_of_lt hll) (intItems xs),
    ⟨⟨_, Heap.get?_push_size _ rfl, rfl, rfl⟩, hl.push _⟩, fun c hc => ?_, by simpa [intItems] using hne, CmpOf.ints_lt (numAt xs) (fun _ _ => intItems_at), fun v h' tk hP hk => ?_⟩
  · show c < (s.heap.push _).objs.size
    rw [Heap.size_push]
    rcases List.mem_cons.mp hc with rfl | hc
    · exact Nat.lt_succ_self _
    · rcases List.mem_cons.mp hc with rfl | hc
      · exact Nat.lt_succ_of_lt hll
      · cases hc
  · refine h v h' tk (by simpa [intItems] using hP) fun b o e => hk b o (fun hm => ?_) (Heap.get?_push_of_some _ e)
    have e2 := List.mem_singleton.mp hm
    have h3 := Heap.lt_size e
    rw [e2] at h3
    exact absurd h3 (Nat.lt_irrefl _)
end
theorem zip_no_len : typeLookup (.type "zip") "__len__" = pure none := am_miss_of_fast (by decide +kernel)
theorem zip_no_hint : typeLookup (.type "zip") "__length_hint__" = pure none := am_miss_of_fast (by decide +kernel)
end BkZip
end PySem
namespace BkG
open PySem PySem.Spec PyProof.Rows L2
/-! ### max, min of a tuple of ints -/
def rMaxT (K : PySem.W.Frag) : List V → Hp → VK → Prop := fun vs H Q => ∃ (a : Addr) (ns : List Int), vs = [V.ref a] ∧ SqT K H a (ns.map V.int) ∧ 0 < ns.length ∧ ∀ m, m ∈ ns → (∀ y, y ∈ ns → y ≤ m) → Q (.int m) H
def rMinT (K : PySem.W.Frag) : List V → Hp → VK → Prop := fun vs H Q => ∃ (a : Addr) (ns : List Int), vs = [V.ref a] ∧ SqT K H a (ns.map V.int) ∧ 0 < ns.length ∧ ∀ m, m ∈ ns → (∀ y, y ∈ ns → m ≤ y) → Q (.int m) H
theorem cr_maxT {X : Cx} (hc : X.calm = true) : CallR X (.builtin "max") (rMaxT X.K) := by
  intro pins s σ H vs us Q I r h
  obtain ⟨a, ns, rfl, hs, hne, q⟩ := h
  obtain ⟨its, rv, hl, _⟩ := I.tuple hs
  rw [Vals.ref1 r]
  have hi := rv.ints
  obtain ⟨xs, e⟩ := hi.allInts.items
  have hn : numsOf (intItems xs).toList = ns := by rw [← e]; exact hi.numsOf
  rw [nums_intItems] at hn
  subst hn
  have hl' : s.heap.IsTuple a its.toArray := hl
  rw [e] at hl'
  have hsz : 0 < xs.size := by simpa using hne
  refine PySem.BkZip.max_intTup (I.ok.hd hc) hl' hl.lt hsz fun v h' tk hv hk => ?_
  obtain ⟨t, rfl⟩ := intItems_at hv
  obtain ⟨h1, h2⟩ := argBest_gt (numAt xs) (xs.size - 1)
  refine ⟨.int _, H, I.kept hk, ⟨_, rfl⟩, q _ ?_ fun b hb => ?_⟩
  · rw [numAt_eq]; exact PySem.getD_mem (by rw [List.length_map, Array.length_toList]; omega)
  · obtain ⟨j, hj, rfl⟩ := mem_getD hb
    rw [List.length_map, Array.length_toList] at hj
    rw [← numAt_eq]; exact h2 j (by omega)
theorem cr_minT {X : Cx} (hc : X.calm = true) : CallR X (.builtin "min") (rMinT X.K) := by
  intro pins s σ H vs us Q I r h
  obtain ⟨a, ns, rfl, hs, hne, q⟩ := h
  obtain ⟨its, rv, hl, _⟩ := I.tuple hs
  rw [Vals.ref1 r]
  have hi := rv.ints
  obtain ⟨xs, e⟩ := hi.allInts.items
  have hn : numsOf (intItems xs).toList = ns := by rw [← e]; exact hi.numsOf
  rw [nums_intItems] at hn
  subst hn
  have hl' : s.heap.IsTuple a its.toArray := hl
  rw [e] at hl'
  have hsz : 0 < xs.size := by simpa using hne
  refine PySem.BkZip.min_intTup (I.ok.hd hc) hl' hl.lt hsz fun v h' tk hv hk => ?_
  obtain ⟨t, rfl⟩ := intItems_at hv
  obtain ⟨h1, h2⟩ := argBest_lt (numAt xs) (xs.size - 1)
  refine ⟨.int _, H, I.kept hk, ⟨_, rfl⟩, q _ ?_ fun b hb => ?_⟩
  · rw [numAt_eq]; exact PySem.getD_mem (by rw [List.length_map, Array.length_toList]; omega)
  · obtain ⟨j, hj, rfl⟩ := mem_getD hb
    rw [List.length_map, Array.length_toList] at hj
    rw [← numAt_eq]; exact h2 j (by omega)
/-! ### list(zip(two lists)) -/
section
variable {X : Cx} {pins : List (Addr × Obj)} {σ : L2.St} {H : Hp} {s : Shared} {z TI TO i1 i2 a b q : Addr}
theorem fp_mv {H H' : Hp} {c : Addr} (f : FpOk X pins H c) (n : H' c = none) : FpOk X pins H' c := ⟨n, f.2⟩
/-- the zip at z, i pairs drawn; the list at q is none of its parts -/
def ZS (z TI TO i1 i2 a b q : Addr) (i : Nat) (h : Heap) : Prop := IsPair h TI (.ref i1) (.ref i2) ∧ h.IsListIter i1 a i ∧ h.IsListIter i2 b i ∧ (∃ oO, h.get? TO = some oO) ∧
  ((IsZip h z TI TO .none ∧ ∃ x y, IsPair h TO x y) ∨ ∃ T f oT, IsZipHeld h z TI TO T f ∧ h.get? T = some oT ∧ T ≠ z ∧ T ≠ i1 ∧ T ≠ i2 ∧ T ≠ q)
theorem ZS.keep {i : Nat} {h h' : Heap} (st : ZS z TI TO i1 i2 a b q i h) (n1 : TI ≠ q) (n2 : i1 ≠ q) (n3 : i2 ≠ q) (n4 : z ≠ q) (n5 : TO ≠ q) (k : ∀ c o, c ≠ q → h.get? c = some o → h'.get? c = some o) : ZS z TI TO i1 i2 a b q i h' := by
  obtain ⟨hTI, h1, h2, ⟨oO, hO⟩, hz⟩ := st
  refine ⟨k _ _ n1 hTI, h1.at fun o e => k _ o n2 e, h2.at fun o e => k _ o n3 e, ⟨oO, k _ _ n5 hO⟩, ?_⟩
  rcases hz with ⟨hz, x, y, hTO⟩ | ⟨T, f, oT, hz, hT, r1, r2, r3, r4⟩
  · exact .inl ⟨k _ _ n4 hz, x, y, k _ _ n5 hTO⟩
  · exact .inr ⟨T, f, oT, k _ _ n4 hz, k _ _ r4 hT, r1, r2, r3, r4⟩
/-- the list made so far: pairs -/
def ZL (H0 H : Hp) (q : Addr) (xs ys : List V) (ts : List Addr) : Prop := Ex H0 H ∧ H q = some (.lst (ts.map V.ref)) ∧ ∀ (i : Nat) (x y : V) (t : Addr), xs[i]? = some x → ys[i]? = some y → ts[i]? = some t → H t = some (.tup [x, y])
theorem zl_loop {A1 : Around} {H0 : Hp} {xs ys : List V} {Rs : Result → Shared → Prop} (hh : A1.in1.handled = none) (D : ZipApart z TI TO i1 i2 a b) (hq0 : H0 q = none) (hlen : xs.length = ys.length) (hz : xs.length ≤ sizeLine) (hx0 : SqL X.K H0 a xs) (hy0 : SqL X.K H0 b ys)
    (nq : q ≠ z ∧ q ≠ TI ∧ q ≠ TO ∧ q ≠ i1 ∧ q ≠ i2) (hdone : ∀ ts H s, Inv X pins σ H s → ts.length = xs.length → ZL H0 H q xs ys ts → Rs (.ok (.ret .none)) s) :
    ∀ (k i : Nat) (s : Shared) (H : Hp) (ts : List Addr), i + k = xs.length → Inv X pins σ H s → (∀ c ∈ [z, TO, i1, i2], FpOk X pins H c) → ZS z TI TO i1 i2 a b q i s.heap → ts.length = i → ZL H0 H q xs ys ts →
      codeAny (model X.prog X.w) A1 (.builtin "list.extend.loop" ⟨[.ref q, .ref z, .none], []⟩) Rs s := by
  intro k
  induction k with
  | zero =>
    intro i s H ts hik I hf st hts L
    refine codeAny_builtin PySem.F.entry_extend_loop ?_
    rw [Around.under_plainId PySem.F.plain_extend_loop _]
    show wpAny _ A1.in1 (pyNext (.ref z) >>= _) _ _ s
    obtain ⟨hTI, h1, h2, ⟨oO, hO⟩, hzz⟩ := st
    obtain ⟨its, rv, p, _⟩ := I.list (L.1.sqL hx0)
    obtain ⟨its2, rv2, p2, _⟩ := I.list (L.1.sqL hy0)
    have l1 := rv.length
    have hend : its.toArray[i]? = none ∨ its2.toArray[i]? = none := .inl (by simp; omega)
    have fin : ∀ h' : Heap, (∀ c o, c ∉ [z, TO, i1, i2] → s.heap.get? c = some o → h'.get? c = some o) → Rs (.ok (.ret .none)) { s with heap := h' } := fun h' hk =>
      hdone ts H _ (I.turnedL (t' := s.toks) hk hf) (by omega) L
    rcases hzz with ⟨hzz, x, y, hTO⟩ | ⟨T, f, oT, hzz, hT, r1, r2, r3, r4⟩
    · refine wpAny_bind (wpAny_pyNext_zip_end hh D hzz hTI hTO h1 h2 p.isList p2.isList hend fun h' hk => ?_)
      exact wpAny_pure (fin h' fun c o hc e => hk c o (fun z => hc (by simp [z])) (fun z => hc (by simp [z])) (fun z => hc (by simp [z])) (fun z => hc (by simp [z])) e)
    · refine wpAny_bind (wpAny_pyNext_zip_end_held hh D hzz hT hTI h1 h2 p.isList p2.isList hend fun h' hk => ?_)
      exact wpAny_pure (fin h' fun c o hc e => hk c o (fun z => hc (by simp [z])) (fun z => hc (by simp [z])) (fun z => hc (by simp [z])) e)
  | succ k ih =>
    intro i s H ts hik I hf st hts L
    refine codeAny_builtin PySem.F.entry_extend_loop ?_
    rw [Around.under_plainId PySem.F.plain_extend_loop _]
    show wpAny _ A1.in1 (pyNext (.ref z) >>= _) _ _ s
    obtain ⟨hTI, h1, h2, ⟨oO, hO⟩, hzz⟩ := st
    obtain ⟨its, rv, p, _⟩ := I.list (L.1.sqL hx0)
    obtain ⟨its2, rv2, p2, _⟩ := I.list (L.1.sqL hy0)
    have hix : i < xs.length := by omega
    have hiy : i < ys.length := by omega
    have ex : xs[i]? = some xs[i] := List.getElem?_eq_getElem hix
    have ey : ys[i]? = some ys[i] := List.getElem?_eq_getElem hiy
    obtain ⟨u, hu, ru⟩ := rv.get ex
    obtain ⟨u2, hu2, ru2⟩ := rv2.get ey
    have lt : ∀ {c o}, s.heap.get? c = some o → s.heap.objs.size ≠ c := fun e => Nat.ne_of_gt (Heap.lt_size e)
    have zlt : ∃ o, s.heap.get? z = some o := by
      rcases hzz with ⟨hzz, _⟩ | ⟨T, f, oT, hzz, _⟩
      · exact ⟨_, hzz⟩
      · exact ⟨_, hzz⟩
    have qlt : q < s.heap.objs.size := by
      obtain ⟨_, _, _, _, _, e⟩ := I.lstM L.2.1
      exact Heap.lt_size e
    have nT : ∀ c, c ∈ [z, i1, i2, q] → s.heap.objs.size ≠ c := fun c hc => by
      have e' : c = z ∨ c = i1 ∨ c = i2 ∨ c = q := by simpa using hc
      rcases e' with e | e | e | e
      · rw [e]; obtain ⟨o, e⟩ := zlt; exact lt e
      · rw [e]; obtain ⟨_, e, _⟩ := h1; exact lt e
      · rw [e]; obtain ⟨_, e, _⟩ := h2; exact lt e
      · rw [e]; exact Nat.ne_of_gt qlt
    have step : ∀ h' : Heap, IsPair h' TI (.ref i1) (.ref i2) → h'.IsListIter i1 a (i + 1) → h'.IsListIter i2 b (i + 1) → IsPair h' s.heap.objs.size u u2 → (∃ oO, h'.get? TO = some oO) → (∃ T f oT, IsZipHeld h' z TI TO T f ∧ h'.get? T = some oT ∧ T ≠ z ∧ T ≠ i1 ∧ T ≠ i2 ∧ T ≠ q) →
        (∀ c o, c ∉ [z, TO, i1, i2] → s.heap.get? c = some o → h'.get? c = some o) →
        wpAny (model X.prog X.w) A1.in1 (updateSeq q (·.push (.ref s.heap.objs.size)) >>= fun _ => again (.builtin "list.extend.loop" ⟨[.ref q, .ref z, .none], []⟩))
          (fun fin s' => match fin with | .done f => Rs (.ok f) s' | .again c' => c'.quiet = true ∧ codeAny (model X.prog X.w) A1 c' Rs s') (fun e s' => Rs (.error e) s') { s with heap := h' } := by
      intro h' aTI a1 a2 aT aO az hk
      have new : ObjOk X.prog X.w (upd H s.heap.objs.size (.tup [xs[i], ys[i]])) h' s.heap.objs.size (.tup [xs[i], ys[i]]) :=
        ⟨by show 2 ≤ sizeLine; decide, [u, u2], .cons ru (.cons ru2 .nil), ⟨_, aT, rfl, _, rfl⟩⟩
      have I1 : Inv X pins σ (upd H s.heap.objs.size (.tup [xs[i], ys[i]])) { s with heap := h' } := I.turnedNew (t' := s.toks) hk hf (Nat.le_refl _) new
      have hTn : H s.heap.objs.size = none := I.hok.fresh (Nat.le_refl _)
      have hq1 : upd H s.heap.objs.size (.tup [xs[i], ys[i]]) q = some (.lst (ts.map V.ref)) := by rw [upd_ne (Nat.ne_of_lt qlt)]; exact L.2.1
      obtain ⟨zz, jts, n, r2, hl2, e⟩ := I1.lstM hq1
      rw [List.length_map] at zz hl2
      have I2 := I1.lset (f := (·.push (.ref s.heap.objs.size))) (its' := jts ++ [.ref s.heap.objs.size]) (ys := (ts ++ [s.heap.objs.size]).map V.ref) (t' := s.toks) hq1 e (by simp) (by rw [List.map_append]; exact r2.append (.cons rfl .nil)) (by rw [List.length_map, List.length_append, List.length_singleton]; omega)
      refine wpAny_bind (wpAny_updateSeq e rfl (wpAny_pure ⟨plainId_quiet PySem.F.plain_extend_loop _, ?_⟩) (by rw [List.size_toArray]; omega) (by show (jts.toArray.push _).size ≤ sizeLine + 1; rw [Array.size_push, List.size_toArray]; omega))
      have kq : ∀ c o, c ≠ q → h'.get? c = some o → (h'.update q (Obj.mapSeq (·.push (.ref s.heap.objs.size)))).get? c = some o := fun c o hc e => (Heap.get?_update_other _ _ (Ne.symm hc)).trans e
      refine ih (i + 1) _ _ (ts ++ [s.heap.objs.size]) (by omega) I2 (fun c hc => ?_) (ZS.keep ⟨aTI, a1, a2, aO, .inr az⟩ nq.2.1.symm nq.2.2.2.1.symm nq.2.2.2.2.symm nq.1.symm nq.2.2.1.symm kq) (by simp [hts]) ⟨?_, upd_same, fun j x y t hx hy ht => ?_⟩
      · refine fp_mv (hf c hc) ?_
        have hcq : c ≠ q := by
          have e' : c = z ∨ c = TO ∨ c = i1 ∨ c = i2 := by simpa using hc
          rcases e' with e | e | e | e <;> rw [e]
          · exact nq.1.symm
          · exact nq.2.2.1.symm
          · exact nq.2.2.2.1.symm
          · exact nq.2.2.2.2.symm
        rw [upd_ne hcq]
        have hcs : c ≠ s.heap.objs.size := by
          have e' : c = z ∨ c = TO ∨ c = i1 ∨ c = i2 := by simpa using hc
          rcases e' with e | e | e | e
          · rw [e]; exact (nT z (by simp)).symm
          · rw [e]; exact (lt hO).symm
          · rw [e]; exact (nT i1 (by simp)).symm
          · rw [e]; exact (nT i2 (by simp)).symm
        rw [upd_ne hcs]
        exact (hf c hc).1
      · exact fun c o hc => by
          have h0 := L.1 _ _ hc
          rw [upd_ne (ne_of_none hc hq0), upd_ne (ne_of_none h0 hTn)]
          exact h0
      · by_cases hj : j < i
        · rw [List.getElem?_append_left (by omega)] at ht
          have h0 := L.2.2 j x y t hx hy ht
          rw [upd_ne (fun e => by rw [e, L.2.1] at h0; cases h0), upd_ne (ne_of_none h0 hTn)]
          exact h0
        · rw [List.getElem?_append_right (by omega), hts] at ht
          have hji : j = i := by
            have := (List.getElem?_eq_some_iff.mp ht).1
            simp at this
            omega
          subst hji
          rw [Nat.sub_self] at ht
          cases ht
          rw [ex] at hx; rw [ey] at hy
          cases hx; cases hy
          rw [upd_ne (Nat.ne_of_gt qlt)]
          exact upd_same
    rcases hzz with ⟨hzz, x, y, hTO⟩ | ⟨T, f, oT, hzz, hT, r1, r2, r3, r4⟩
    · refine wpAny_bind (wpAny_pyNext_zip_item D hzz hTI hTO h1 h2 p.isList p2.isList (x := u) (y := u2) (by simpa using hu) (by simpa using hu2) fun h' a1 a2 a3 a4 a5 a6 hk => ?_)
      exact step h' (hk _ _ D.TIz D.TITO D.TIi1 D.TIi2 hTI) a3 a4 a5 ⟨_, a2⟩ ⟨s.heap.objs.size, false, _, a1, a5, nT z (by simp), nT i1 (by simp), nT i2 (by simp), nT q (by simp)⟩
        fun c o hc e => hk c o (fun z => hc (by simp [z])) (fun z => hc (by simp [z])) (fun z => hc (by simp [z])) (fun z => hc (by simp [z])) e
    · refine wpAny_bind (wpAny_pyNext_zip_item_held D hzz hT hTI h1 h2 p.isList p2.isList (x := u) (y := u2) (by simpa using hu) (by simpa using hu2) fun h' a1 a3 a4 a5 a6 hk => ?_)
      exact step h' (hk _ _ D.TIz D.TIi1 D.TIi2 hTI) a3 a4 a5 ⟨oO, hk _ _ D.TOz D.TOi1 D.TOi2 hO⟩ ⟨T, true, oT, a1, hk _ _ r1 r2 r3 hT, r1, r2, r3, r4⟩
        fun c o hc e => hk c o (fun z => hc (by simp [z])) (fun z => hc (by simp [z])) (fun z => hc (by simp [z])) e

theorem zl_hint {M : Model} {A : Around} {E : Value → Shared → Prop} {Q : Bool → Shared → Prop} (hT : s.TypeIs (.ref z) "zip") (h : Q true s) : wpAny M A (Builtin.List.listLengthHint (.ref z)) Q E s := by
  unfold Builtin.List.listLengthHint
  refine wpAny_bind (wpAny_specialOf hT PySem.BkZip.zip_no_len ?_)
  show wpAny _ A (specialOf (Value.ref z) (Str.ofString "__length_hint__") >>= _) _ _ _
  refine wpAny_bind (wpAny_specialOf hT PySem.BkZip.zip_no_hint ?_)
  exact wpAny_pure h
theorem call_listZip {Q : VK} {xs ys : List V} (hc : X.calm = true) (I : Inv X pins σ H s) (D : ZipApart z TI TO i1 i2 a b) (hz : IsZip s.heap z TI TO .none) (hTI : IsPair s.heap TI (.ref i1) (.ref i2)) (hTO : ∃ x y, IsPair s.heap TO x y) (h1 : s.heap.IsListIter i1 a 0) (h2 : s.heap.IsListIter i2 b 0)
    (hf : ∀ c ∈ [z, TO, i1, i2], FpOk X pins H c) (hlen : xs.length = ys.length) (hx0 : SqL X.K H a xs) (hy0 : SqL X.K H b ys)
    (q : ∀ l H2 ts, H l = none → ts.length = xs.length → ZL H H2 l xs ys ts → Q (.ref l) H2) :
    wpAny (model X.prog X.w) X.A (call (.type "list") [.ref z]) (fun r s' => ∃ v H', Inv X pins σ H' s' ∧ RelV v r ∧ Q v H') X.xe s := by
  obtain ⟨_, _, _, hlz⟩ := I.list hx0
  refine callType_codes (Q₁ := fun obj s₁ => obj = .ref s.heap.objs.size ∧ s₁ = { s with heap := s.heap.push { cls := .type "list", data := .seq #[] } }) PySem.F.called_list (PySem.F.typeCall_list_1 _) PySem.F.entry_list_init
    (code_list_new _ ⟨rfl, rfl⟩) fun obj s₁ h₁ => ?_
  obtain ⟨rfl, rfl⟩ := h₁
  have hS : (s.heap.push { cls := .type "list", data := .seq #[] }).get? s.heap.objs.size = some { cls := .type "list", data := .seq #[] } := Heap.get?_push_size _ rfl
  refine ⟨⟨_, hS, rfl⟩, PySem.F.args_list_init_2 _ _, ?_⟩
  have fr : H s.heap.objs.size = none := I.hok.fresh (Nat.le_refl _)
  have I1 : Inv X pins σ (upd H s.heap.objs.size (.lst [])) { s with heap := s.heap.push { cls := .type "list", data := .seq #[] } } := I.lnew (its := []) (t' := s.toks) .nil (Nat.zero_le _)
  show wpAny _ _ (do let old ← Builtin.List.listItems (.ref s.heap.objs.size); Builtin.List.listUpdate (.ref s.heap.objs.size) (fun _ => #[]); letGo old.toList.reverse; Builtin.List.listExtendWith (.ref s.heap.objs.size) (.ref z) .none) _ _ _
  refine wpAny_bind ?_
  unfold Builtin.List.listItems
  refine wpAny_bind (wpAny_seqItems hS rfl (wpAny_pure ?_))
  show wpAny _ _ (updateSeq s.heap.objs.size (fun _ => #[]) >>= fun _ => letGo (#[] : Array Value).toList.reverse >>= fun _ => Builtin.List.listExtendWith (.ref s.heap.objs.size) (.ref z) .none) _ _ _
  refine wpAny_bind (wpAny_updateSeq hS rfl ?_)
  have I2 := I1.lset (f := fun _ => #[]) (its := []) (its' := []) (ys := []) (t' := s.toks) upd_same hS rfl .nil (Nat.zero_le _)
  rw [upd_upd] at I2
  refine wpAny_bind (wpAny_letGo ?_)
  obtain ⟨p, hp⟩ : ∃ p, p = s.heap.objs.size := ⟨_, rfl⟩
  have lt : ∀ {c o}, s.heap.get? c = some o → p ≠ c := fun e => by rw [hp]; exact Nat.ne_of_gt (Heap.lt_size e)
  have nz : p ≠ z := lt hz
  have nTI : p ≠ TI := lt hTI
  have nTO : p ≠ TO := by obtain ⟨x, y, e⟩ := hTO; exact lt e
  have n1 : p ≠ i1 := by obtain ⟨_, e, _⟩ := h1; exact lt e
  have n2 : p ≠ i2 := by obtain ⟨_, e, _⟩ := h2; exact lt e
  have ZS0 : ZS z TI TO i1 i2 a b p 0 s.heap := ⟨hTI, h1, h2, (by obtain ⟨x, y, e⟩ := hTO; exact ⟨_, e⟩), .inl ⟨hz, hTO⟩⟩
  rw [← hp] at I2 fr hS ⊢
  have k0 : ∀ c o, c ≠ p → s.heap.get? c = some o → ((s.heap.push { cls := .type "list", data := .seq #[] }).update p (Obj.mapSeq fun _ => #[])).get? c = some o := fun c o hcp e =>
    (Heap.get?_update_other _ _ (Ne.symm hcp)).trans (Heap.get?_push_of_some _ e)
  have ZS1 := ZS0.keep nTI.symm n1.symm n2.symm nz.symm nTO.symm k0
  generalize hs' : ({ s with heap := (s.heap.push { cls := .type "list", data := .seq #[] }).update p (Obj.mapSeq fun _ => #[]) } : Shared) = s' at I2 ⊢
  have hh' : s'.heap = (s.heap.push { cls := .type "list", data := .seq #[] }).update p (Obj.mapSeq fun _ => #[]) := by rw [← hs']
  rw [← hh'] at ZS1
  have hzz : IsZip s'.heap z TI TO .none := by rw [hh']; exact k0 _ _ nz.symm hz
  have hT : s'.TypeIs (.ref z) "zip" := ⟨_, hzz, rfl⟩
  have hTok : Inv X pins σ (upd H p (.lst [])) s' := I2
  clear I2 k0 ZS0
  have hfp : ∀ c ∈ [z, TO, i1, i2], FpOk X pins (upd H p (.lst [])) c := fun c hcm => by
    refine fp_mv (hf c hcm) ?_
    have hne : c ≠ p := by
      have e' : c = z ∨ c = TO ∨ c = i1 ∨ c = i2 := by simpa using hcm
      rcases e' with e | e | e | e <;> rw [e]
      · exact nz.symm
      · exact nTO.symm
      · exact n1.symm
      · exact n2.symm
    rw [upd_ne hne]
    exact (hf c hcm).1
  have L0 : ZL H (upd H p (.lst [])) p xs ys [] := ⟨Ex.new fr, upd_same, fun i x y t _ _ ht => by cases ht⟩
  have loop : ∀ (s2 : Shared), Inv X pins σ (upd H p (.lst [])) s2 → ZS z TI TO i1 i2 a b p 0 s2.heap →
      codeAny (model X.prog X.w) X.A.in1 (.builtin "list.extend.loop" ⟨[.ref p, .ref z, .none], []⟩) (wants (fun r s₂ => r = .none ∧ ∃ v H', Inv X pins σ H' s₂ ∧ RelV v (.ref p) ∧ Q v H') X.xe) s2 := fun s2 J st2 =>
    zl_loop (A1 := X.A.in1) (show X.A.in1.in1.handled = none from I.ok.hd hc) D fr hlen hlz hx0 hy0 ⟨nz, nTI, nTO, n1, n2⟩ (fun ts H3 s3 J3 hl3 L3 => ⟨rfl, .ref p, H3, J3, rfl, q p H3 ts fr hl3 L3⟩) xs.length 0 s2 _ [] (by omega) J hfp st2 rfl L0
  unfold Builtin.List.listExtendWith
  refine wpAny_bind (wpAny_typeOf hT ?_)
  have g1 : Builtin.List.listSameRef (.ref p) (.ref z) = false := by simp [Builtin.List.listSameRef, nz]
  have g2 : (Value.type "zip" == Value.type "list") = false := by decide
  have g3 : (Value.type "zip" == Value.type "tuple") = false := by decide
  simp only [g1, g2, g3, Bool.or_false, Bool.false_eq_true, if_false]
  refine wpAny_bind (wpAny_pyIter_zip hzz ?_)
  refine wpAny_bind (wpAny_holding (zl_hint hT ?_))
  obtain ⟨zz, its, kk, r3, hl3, e3⟩ := hTok.lstM (l := p) upd_same
  cases r3
  show wpAny _ _ (rule "list.extend.makes-room" >>= fun _ => Builtin.List.listTouch (.ref p) >>= fun _ => again (.builtin "list.extend.loop" ⟨[.ref p, .ref z, .none], []⟩)) _ _ _
  refine wpAny_bind (wpAny_rule ?_)
  refine wpAny_bind ?_
  show wpAny _ _ (updateSeq p (·.push .none) >>= fun _ => updateSeq p (·.pop)) _ _ _
  refine wpAny_bind (wpAny_updateSeq e3 rfl ?_)
  have J2 := hTok.lset (f := (·.push Value.none)) (its' := [Value.none]) (ys := [.non]) (t' := s'.toks) upd_same e3 (by simp) (.cons rfl .nil) (by rw [List.length_singleton, sizeLine_eq]; decide)
  obtain ⟨z4, its4, k4, r4, hl4, e4⟩ := J2.lstM (l := p) upd_same
  obtain ⟨u4, rfl, ru4⟩ := r4.one
  refine wpAny_updateSeq e4 rfl ?_ (by show 1 ≤ sizeLine; rw [sizeLine_eq]; decide) (by show 0 ≤ sizeLine + 1; exact Nat.zero_le _)
  refine wpAny_pure ⟨plainId_quiet PySem.F.plain_extend_loop _, loop _ ?_ ?_⟩
  · have J3 := J2.lset (f := (·.pop)) (its := [u4]) (its' := []) (ys := []) (t' := s'.toks) upd_same e4 (by rfl) .nil (Nat.zero_le _)
    rw [upd_upd, upd_upd] at J3
    exact J3
  · exact ZS1.keep nTI.symm n1.symm n2.symm nz.symm nTO.symm fun c o hcp e => (Heap.get?_update_other _ _ (Ne.symm hcp)).trans ((Heap.get?_update_other _ _ (Ne.symm hcp)).trans e)
/-- list(zip(e, e2)) of two lists of one length -/
def aZip (K : PySem.W.Frag) (Q : VK) : List V → Hp → Prop := fun vs H1 => ∃ a b xs ys, vs = [.ref a, .ref b] ∧ SqL K H1 a xs ∧ SqL K H1 b ys ∧ xs.length = ys.length ∧ ∀ l H2 ts, H1 l = none → ts.length = xs.length → ZL H1 H2 l xs ys ts → Q (.ref l) H2
def tLstZip (K : PySem.W.Frag) (ta : TA) : TE := fun σ H Q => ta σ H (aZip K Q)
theorem w_lstZip {K : PySem.W.Frag} {ta : TA} {Q : VK} (h : ta σ H (aZip K Q)) : tLstZip K ta σ H Q := h
theorem pe_lstZip {e e2 : Expr} {ta : TA} {p pos p2 pos2 : Pos} (hc : X.calm = true) (hg : Gl X "list") (hm : X.mg "list" = none) (hg2 : Gl X "zip") (hm2 : X.mg "zip" = none) (ha : PA X [e, e2] ta)
    (na : starEach [.Call (.Name "zip" p2) [e, e2] [] pos2] X.env = (false, eval (.Call (.Name "zip" p2) [e, e2] [] pos2) X.env) :: starEach [] X.env := by rfl)
    (hs : starEach [e, e2] X.env = (false, eval e X.env) :: starEach [e2] X.env := by rfl) (hpl : (backTo pos2 (starEach [e2] X.env)).any (·.1) = false := by rfl) :
    PE X (.Call (.Name "list" p) [.Call (.Name "zip" p2) [e, e2] [] pos2] [] pos) (tLstZip X.K ta) := by
  refine ⟨fun pins s σ H Q I h => ?_⟩
  refine Call_ (ld_blt I hg hm boot_list (PyProof.Rows.callWith_type1 (args_cons (?_) na) na))
  refine Call_ (ld_blt I hg2 hm2 PyProof.Rows.boot_zip (PyProof.Rows.callWith_type1 (thn (ha.run pos2 pins s σ H _ I h) fun us s1 ⟨vs, H1, I1, r1, q1⟩ => ?_) hs hpl))
  obtain ⟨a, b, xs, ys, ex, hqx, hqy, hlen, q⟩ := q1
  subst ex
  cases r1 with
  | cons r rr =>
    cases rr with
    | cons r' rr =>
      cases rr
      cases r
      cases r'
      have fresh5 : ∀ c, c ∈ [s1.heap.objs.size + 4, s1.heap.objs.size + 3, s1.heap.objs.size, s1.heap.objs.size + 1] → FpOk X pins H1 c := fun c hcm => by
        have e' : c = s1.heap.objs.size + 4 ∨ c = s1.heap.objs.size + 3 ∨ c = s1.heap.objs.size ∨ c = s1.heap.objs.size + 1 := by simpa using hcm
        have hle : s1.heap.objs.size ≤ c := by
          rcases e' with z | z | z | z
          · rw [z]; exact Nat.le_add_right _ _
          · rw [z]; exact Nat.le_add_right _ _
          · rw [z]; exact Nat.le_refl _
          · rw [z]; exact Nat.le_add_right _ _
        exact I1.fpOk hle (I1.hok.fresh hle)
      obtain ⟨its, rv, p1, _⟩ := I1.list hqx
      obtain ⟨its2, rv2, p2', _⟩ := I1.list hqy
      refine call_zip_2 p1.isList p2'.isList fun h' hz hTI hTO h1 h2 hsz hk => ?_
      have I2 : Inv X pins σ H1 { s1 with heap := h' } := I1.kept (t' := s1.toks) hk
      refine args_nil ?_
      exact call_listZip hc I2 (PySem.W.ktu_apart s1.heap.objs.size a b p1.lt p2'.lt) hz hTI ⟨_, _, hTO⟩ h1 h2 fresh5 hlen hqx hqy q
end
end BkG
end
section
namespace BkG
open PySem PySem.Spec L2
/-! ### what two words tell, in plain Lean -/
def opV : Nat → Str
  | 0 => "add" | 1 => "sub" | 2 => "mul" | 3 => "mix" | 4 => "both" | 5 => "any" | 6 => "same" | 7 => "less" | 8 => "div" | _ => "mod"
def opF (w : Nat) : Nat → Int → Int → Int
  | 0, a, b => (a + b) % 2 ^ w
  | 1, a, b => (a - b) % 2 ^ w
  | 2, a, b => (a * b) % 2 ^ w
  | 3, a, b => Builtin.bitXor a b
  | 4, a, b => Builtin.bitAnd a b
  | 5, a, b => Builtin.bitOr a b
  | _, a, b => if a = b then 1 else 0
theorem and_nat (a b : Nat) : Builtin.bitAnd (a : Int) (b : Int) = ((a &&& b : Nat) : Int) := by simp [Builtin.bitAnd]
theorem opF3 (w : Nat) (a b : Int) : opF w 3 a b = Builtin.bitXor a b := rfl
theorem opF4 (w : Nat) (a b : Int) : opF w 4 a b = Builtin.bitAnd a b := rfl
theorem opF5 (w : Nat) (a b : Int) : opF w 5 a b = Builtin.bitOr a b := rfl
theorem opF_wd {w k : Nat} {a b : Int} (hw : 1 ≤ w) (ha : Wd w a) (hb : Wd w b) : Wd w (opF w k a b) := by
  obtain ⟨x, rfl, hx⟩ := ha.nat
  obtain ⟨y, rfl, hy⟩ := hb.nat
  match k with
  | 0 => exact Wd.mod _ _
  | 1 => exact Wd.mod _ _
  | 2 => exact Wd.mod _ _
  | 3 => exact xor_wd (.of_nat hx) (.of_nat hy)
  | 4 => rw [opF4, and_nat]; exact .of_nat (Nat.and_lt_two_pow _ hy)
  | 5 => rw [opF5, or_nat]; exact .of_nat (Nat.or_lt_two_pow hx hy)
  | _ + 6 =>
    have h1 : (1 : Int) < 2 ^ w := by
      have h : (2 : Int) ^ 1 ≤ 2 ^ w := by
        rw [← pow_cast, ← pow_cast]
        exact_mod_cast Nat.pow_le_pow_right (by decide) hw
      have e : (2 : Int) ^ 1 = 2 := by decide
      omega
    show Wd w (if _ then 1 else 0)
    split
    · exact ⟨by decide, h1⟩
    · exact ⟨by decide, pow_pos' w⟩
/-! the same beside a lesser width -/
theorem pow_dvd' {s w : Nat} (h : s ≤ w) : (2 : Int) ^ s ∣ 2 ^ w := by
  obtain ⟨r, rfl⟩ : ∃ r, w = s + r := ⟨w - s, by omega⟩
  rw [Int.pow_add]; exact Int.dvd_mul_right _ _
theorem mod_mod' {s w : Nat} {a : Int} (h : s ≤ w) : a % 2 ^ w % 2 ^ s = a % 2 ^ s := Int.emod_emod_of_dvd _ (pow_dvd' h)
theorem natmod {x s : Nat} : ((x : Int) % 2 ^ s) = ((x % 2 ^ s : Nat) : Int) := by rw [← pow_cast, Int.natCast_emod]
theorem opF_less {w s k : Nat} {a b : Int} (h : s ≤ w) (hk : k < 6) (ha : Wd w a) (hb : Wd w b) : opF w k a b % 2 ^ s = opF s k (a % 2 ^ s) (b % 2 ^ s) := by
  obtain ⟨x, rfl, hx⟩ := ha.nat
  obtain ⟨y, rfl, hy⟩ := hb.nat
  match k with
  | 0 => show (_ % _ % _ : Int) = _ % _; rw [mod_mod' h, Int.add_emod]
  | 1 => show (_ % _ % _ : Int) = _ % _; rw [mod_mod' h, Int.sub_emod]
  | 2 => show (_ % _ % _ : Int) = _ % _; rw [mod_mod' h, Int.mul_emod]
  | 3 => rw [opF3, opF3, xor_nat, natmod, natmod, natmod, xor_nat, Nat.xor_mod_two_pow]
  | 4 => rw [opF4, opF4, and_nat, natmod, natmod, natmod, and_nat, Nat.and_mod_two_pow]
  | 5 => rw [opF5, opF5, or_nat, natmod, natmod, natmod, or_nat, Nat.or_mod_two_pow]
  | _ + 6 => omega
/-- one number alone undoes an odd one -/
theorem back_unique {s : Nat} {f g n : Int} (hf : (2 : Int) ^ s ∣ f * n - 1) (hg : (2 : Int) ^ s ∣ g * n - 1) : f % 2 ^ s = g % 2 ^ s := by
  obtain ⟨c, hc⟩ := hf
  obtain ⟨d, hd⟩ := hg
  have e : f - g = 2 ^ s * (c * g - d * f) := by
    have h1 : f * n = 2 ^ s * c + 1 := by omega
    have h2 : g * n = 2 ^ s * d + 1 := by omega
    have a1 : f * n * g = 2 ^ s * (c * g) + g := by rw [h1, Int.add_mul, Int.mul_assoc, Int.one_mul]
    have a2 : g * n * f = 2 ^ s * (d * f) + f := by rw [h2, Int.add_mul, Int.mul_assoc, Int.one_mul]
    have a3 : f * n * g = g * n * f := by rw [Int.mul_assoc, Int.mul_comm f, Int.mul_comm n g]
    rw [Int.mul_sub]
    omega
  exact Int.emod_eq_emod_iff_emod_sub_eq_zero.mpr (Int.emod_eq_zero_of_dvd (by rw [e]; exact Int.dvd_mul_right _ _))
theorem back_less {w s : Nat} {n : Int} (hs : 1 ≤ s) (h : s ≤ w) (hn : n % 2 ≠ 0) : backOf w n w % 2 ^ s = backOf s n s := by
  have h1 := back_dvd (w := w) (by omega) hn
  have h2 := back_dvd hs hn
  rw [back_unique (Int.dvd_trans (pow_dvd' h) h1) h2]
  have h3 := backOf_wd (n := n) hs s
  exact Int.emod_eq_of_lt h3.1 h3.2
/-! both, any, together -/
theorem both_any (a b : Nat) : (a &&& b) + (a ||| b) = a + b := by
  have h : ∀ (n a b : Nat), a ≤ n → (a &&& b) + (a ||| b) = a + b := by
    intro n
    induction n with
    | zero => intro a b h; have : a = 0 := by omega
              subst this; simp
    | succ n ih =>
      intro a b h
      by_cases h0 : a = 0
      · subst h0; simp
      · have h := ih (a / 2) (b / 2) (by omega)
        have e1 := bit_split (a ||| b)
        have e3 := bit_split (a &&& b)
        rw [Nat.or_div_two, Nat.testBit_or] at e1
        rw [Nat.and_div_two, Nat.testBit_and] at e3
        have ea := bit_split a
        have eb := bit_split b
        cases ha : a.testBit 0 <;> cases hb : b.testBit 0 <;> rw [ha, hb] at e1 e3 <;> rw [ha] at ea <;> rw [hb] at eb <;> simp at e1 e3 ea eb <;> omega
  exact h a a b (Nat.le_refl _)
theorem plus_both {w : Nat} {a b : Int} (ha : Wd w a) (hb : Wd w b) : opF w 4 a b + opF w 5 a b = a + b := by
  obtain ⟨x, rfl, hx⟩ := ha.nat
  obtain ⟨y, rfl, hy⟩ := hb.nat
  rw [opF4, opF5, and_nat, or_nat]
  have := both_any x y
  omega
theorem minus_both {w : Nat} {a b : Int} (ha : Wd w a) (hb : Wd w b) : (opF w 5 a b - opF w 4 a b) % 2 ^ w = Builtin.bitXor a b := by
  have h := xor_wd ha hb
  obtain ⟨x, rfl, hx⟩ := ha.nat
  obtain ⟨y, rfl, hy⟩ := hb.nat
  have e : opF w 5 (x : Int) (y : Int) - opF w 4 x y = Builtin.bitXor (x : Int) (y : Int) := by
    rw [opF4, opF5, and_nat, or_nat, xor_nat]
    have := nat_or_and x y
    omega
  rw [e]
  exact Int.emod_eq_of_lt h.1 h.2
theorem same_both {w : Nat} {a b : Int} (ha : Wd w a) (hb : Wd w b) : opF w 4 a b = opF w 5 a b ↔ a = b := by
  obtain ⟨x, rfl, hx⟩ := ha.nat
  obtain ⟨y, rfl, hy⟩ := hb.nat
  rw [opF4, opF5, and_nat, or_nat]
  constructor
  · intro e
    have e' : x &&& y = x ||| y := by omega
    have h1 := nat_or_and x y
    have h2 : x ^^^ y = 0 := by omega
    have h3 : x = y := by
      have : (x ^^^ y) ^^^ y = 0 ^^^ y := by rw [h2]
      rw [Nat.xor_assoc, Nat.xor_self, Nat.xor_zero, Nat.zero_xor] at this
      exact this
    rw [h3]
  · intro e
    have e' : x = y := by omega
    subst e'; simp
/-! bits -/
def bitOf (a i : Nat) : Int := ((a / 2 ^ i % 2 : Nat) : Int)
def bitsOf (w a : Nat) : List Int := (List.range w).map (bitOf a)
def numOf (bits : List Int) : Int := bits.foldr (fun b acc => acc * 2 + b) 0
theorem bitOf_eq (a i : Nat) : bitOf a i = if a.testBit i then 1 else 0 := by
  unfold bitOf
  rw [Nat.testBit_eq_decide_div_mod_eq]
  by_cases h : a / 2 ^ i % 2 = 1
  · rw [h, decide_eq_true rfl]; rfl
  · have h0 : a / 2 ^ i % 2 = 0 := by omega
    rw [h0]; rfl
theorem numOf_bits : ∀ (w a : Nat), a < 2 ^ w → numOf (bitsOf w a) = (a : Int)
  | 0, a, h => by have : a = 0 := by simpa using h
                  subst this; rfl
  | w + 1, a, h => by
    have ih := numOf_bits w (a / 2) (by rw [Nat.pow_succ] at h; omega)
    have e : bitsOf (w + 1) a = bitOf a 0 :: bitsOf w (a / 2) := by
      unfold bitsOf
      rw [List.range_succ_eq_map, List.map_cons, List.map_map]
      congr 1
      refine List.map_congr_left fun i _ => ?_
      show bitOf a (i + 1) = bitOf (a / 2) i
      unfold bitOf
      rw [Nat.div_div_eq_div_mul, Nat.pow_succ, Nat.mul_comm]
    rw [e]
    show numOf (bitsOf w (a / 2)) * 2 + bitOf a 0 = _
    rw [ih]
    unfold bitOf
    rw [Nat.pow_zero, Nat.div_one]
    omega
theorem bits_both (a b i : Nat) : min (bitOf a i) (bitOf b i) = bitOf (a &&& b) i := by
  rw [bitOf_eq, bitOf_eq, bitOf_eq, Nat.testBit_and]
  cases a.testBit i <;> cases b.testBit i <;> decide
theorem bits_any (a b i : Nat) : max (bitOf a i) (bitOf b i) = bitOf (a ||| b) i := by
  rw [bitOf_eq, bitOf_eq, bitOf_eq, Nat.testBit_or]
  cases a.testBit i <;> cases b.testBit i <;> decide
theorem bits_mix (a b i : Nat) : (if bitOf a i ≠ bitOf b i then (1 : Int) else 0) = bitOf (a ^^^ b) i := by
  rw [bitOf_eq, bitOf_eq, bitOf_eq, Nat.testBit_xor]
  cases a.testBit i <;> cases b.testBit i <;> decide
theorem bit_01 (a i : Nat) : 0 ≤ bitOf a i ∧ bitOf a i ≤ 1 := by unfold bitOf; omega
/-! ### what the law's helpers promise -/
def spBits : Sp := fun vs H Q _ => ∃ (w a : Nat), vs = [.int w, .int a] ∧ w ≤ 64 ∧ a < 2 ^ 64 ∧ ∀ p H', H p = none → Ex H H' → H' p = some (.lst ((bitsOf w a).map V.int)) → Q (.ref p) H'
def spNumber : Sp := fun vs H Q _ => ∃ (l : Addr) (bs : List Int), vs = [.ref l] ∧ H l = some (.lst (bs.map V.int)) ∧ bs.length ≤ 64 ∧ (∀ b ∈ bs, 0 ≤ b ∧ b ≤ 1) ∧ ∀ H', Ex H H' → Q (.int (numOf bs)) H'
def spTold : Sp := fun vs H Q _ => ∃ (w k : Nat) (a b : Int), vs = [.int w, .str (opV k), .int a, .int b] ∧ 1 ≤ w ∧ w ≤ 64 ∧ k < 6 ∧ Wd w a ∧ Wd w b ∧ ∀ H', Ex H H' → Q (.int (opF w k a b)) H'
def spResult : Sp := fun vs H Q _ => ∃ (w k : Nat) (a b : Int), vs = [.str (opV k), .int w, .int a, .int b] ∧ 1 ≤ w ∧ w ≤ 64 ∧ k < 7 ∧ Wd w a ∧ Wd w b ∧ ∀ H', Ex H H' → Q (.int (opF w k a b)) H'
def spReck : Sp := fun vs H Q _ => ∃ (w k : Nat) (a b : Int), vs = [.int w, .str (opV k), .int a, .int b] ∧ 1 ≤ w ∧ w ≤ 64 ∧ k < 7 ∧ Wd w a ∧ Wd w b ∧ ∀ H', Ex H H' → Q (.int (opF w k a b)) H'
end BkG
end
section
namespace PySem
namespace BkErr
open PySem.W PySem.Calls PyProof.Rows PySem.HandSPX
/-! ### an own error with a field: def __init__(self, at): super().__init__(at); self.at = at -/
def iA (p1 p2 : Pos) : Arguments := { posonlyargs := [], args := [{ arg := "self", annotation := none, pos := p1 }, { arg := "at", annotation := none, pos := p2 }], vararg := none, kwonlyargs := [], kw_defaults := [], kwarg := none, defaults := [] }
def iB (p0 p1 p2 p3 p4 p5 q1 q2 q3 q4 : Pos) : List Stmt := [.Expr (.Call (.Attribute (.Call (.Name "super" p0) [] [] p1) "__init__" p2) [.Name "at" p3] [] p4) p5, .Assign [.Attribute (.Name "self" q1) "at" q2] (.Name "at" q3) q4]
def iS : Scope := { kind := .function, names := [(PySem.Str.ofString "self", .local), (PySem.Str.ofString "at", .local), (PySem.Str.ofString "__class__", .free), (PySem.Str.ofString "super", .globalImplicit)], isGenerator := false, isCoroutine := false, more := [] }
/-- what the written part says of the class nm, at C, and of its __init__, at fI -/
structure ErrTxt (P : Program) (K : Frag) (mg : Str → Option Value) (nm : Str) (C fI : Addr) : Prop where
  gC : mg nm = some (.ref C)
  noS : mg "super" = none
  cls : ∃ nm q N bs bm sn sub ab col dd k0 k1 k2 k3 k5, K.lookup C = some (excClassObj nm q C N bs bm true sn sub ab col dd k0 k1 k2 k3 k5 "ValueError.__new__") ∧ refsVE bm = true
  sa : findIn K (.ref C) "__setattr__" = some (some (.builtin "object.__setattr__"))
  ga : findIn K (.ref C) "__getattribute__" = some (some (.builtin "BaseException.__getattribute__"))
  gg : findIn K (.ref C) "__getattr__" = some none
  noN : findIn K (.ref C) "at" = some none
  iC : findIn K (.ref C) "__init__" = some (some (.ref fI))
  tC : typeIn K (.ref fI) = some (.type "function")
  kC : keepIn K (.ref C) = true
  exC : subIn K (.ref C) (.type "BaseException") = some true
  veC : subIn K (.ref C) (.type "ValueError") = some true
  tyC : typeIn K (.ref C) = some (.type "type")
  hdC : hasDictIn K C = true
  te : exmOne K (.ref C) (.ref C) = some true
  mro : mroIn K C (.ref C) = some true
  op : nsIn K cStatics "thirdparty.any" = some none
  sup : ks_superIn K C C "__init__" = some (some (.builtin "ValueError.__init__"))
  fn : ∃ (oc : Value) (od : Option Addr) (qual : Str) (doc pm : Value) (an : Option Addr) (cda cc : Addr) (ct : Value) (osl : Array (Option Value)) (p1' p2' p0 p1 p2 p3 p4 p5 q1 q2 q3 q4 : Pos),
    K.lookup fI = some ⟨oc, od, .func (ksFn "__init__" qual (iA p1' p2') (iB p0 p1 p2 p3 p4 p5 q1 q2 q3 q4) iS .none .none doc pm an (.ref cda) ct cc), osl⟩ ∧ codeIn K (.ref cda) qual = true ∧
    (∃ cl cld csl, K.lookup cc = some ⟨cl, cld, .cell (some (.ref C)), csl⟩) ∧ (p2.endLine == p4.line) = true ∧ ∃ ccl cdd vs ccs file tf, K.lookup cda = some ⟨ccl, cdd, .fields vs, ccs⟩ ∧ vs[2]? = some (.str file tf) ∧ ((P.main.file : Str) == file) = true
  top : (P.main.scope.names.lookup ("super" : Str)).isSome = false
theorem ldC {M : Model} {s : Shared} {name : Str} {scope : Scope} {L a : Addr} {cd : Value} {cc : Addr} {m : Str → Option Value} {x : Str} {pos : Pos} {v : Value} {Q : Value → Shared → Prop} {A : Around} {E : Value → Shared → Prop} (hn : s.heap.Ns L m) (hv : m x = some v) (h : Q v s)
    (hk : scope.kind = .function := by rfl) (hl : (ksEnv name scope L a cd cc).kindOf x = some .local := by rfl) (hd : (x == ("__debug__" : Str)) = false := by decide) :
    wpAny M A (eval (.Name x pos) (ksEnv name scope L a cd cc)) Q E s := wpAny_Name (wpAny_loadName_local hk hl hn hv h) hd
theorem eval_meth {o e : Expr} {name : Str} {apos pos : Pos} {env : Env} (hline : (apos.endLine == pos.line) = true) (he : starEach [e] env = [(false, eval e env)] := by rfl) :
    eval (.Call (.Attribute o name apos) [e] [] pos) env = (do
      let ov ← attributeBase o name env (eval o env)
      standAt apos.atName
      let (f, first) ← holding [ov] (getMethod ov name (do return (← importBound o env).getD true))
      callWith pos f first (backTo pos (starEach [e] env)) []) := by
  have hform : methodCallForm ([e].length + ([] : List Keyword).length) (backTo pos (starEach [e] env)) (backToKw pos (keywordEach [] env)) = true := by rw [he]; rfl
  have hpos : methodCallPos true o env apos pos = pure pos := by unfold methodCallPos; simp [hline]
  show (do
    let ov ← attributeBase o name env (eval o env)
    standAt apos.atName
    methodCall o name apos pos env ov ([e].length + ([] : List Keyword).length) (backTo pos (starEach [e] env)) (backToKw pos (keywordEach [] env))) = _
  unfold methodCall calleeOf
  simp only [hform, hpos, if_true, pure_bind]
  rfl
theorem callWith1 {M : Model} {A : Around} {E : Value → Shared → Prop} {s : Shared} {i : String} {u x : Addr} {pos : Pos} {env : Env} {e : Expr} {rest : List Expr} {Q : Value → Shared → Prop}
    (h : wpAny M A (spliced (backTo pos (starEach (e :: rest) env))) (fun vs s₁ => KxsAt i u x s₁.heap ∧ wpAny M A (call (.ref u) vs) Q E s₁) E s)
    (he : starEach (e :: rest) env = (false, eval e env) :: starEach rest env := by rfl) (hplain : (backTo pos (starEach rest env)).any (·.1) = false := by rfl) :
    wpAny M A (callWith pos (.ref u) [] (backTo pos (starEach (e :: rest) env)) []) Q E s := by
  rw [he] at h ⊢
  refine kxs_callWith (i := i) (x := x) (by show (false || (backTo pos (starEach rest env)).any (·.1)) = false; rw [hplain]; rfl) ?_
  exact evalArgs_plain h
structure InitEnd (h h' : Heap) (x C dx t1 : Addr) (v : Value) : Prop where
  keep : ∀ b o, b ≠ x → h.get? b = some o → h'.get? b = some o
  obj : h'.get? x = some { cls := .ref C, dict := some dx, data := .fields #[.ref t1, .none, .none, .none, .bool false, .none] }
  dbig : h.objs.size ≤ dx
  dne : dx ≠ x
  ns : h'.Ns1 dx (fun y => if y = "at" then some v else none)
structure OwnMade (h h' : Heap) (e C d : Addr) (v : Value) : Prop where
  keep : ∀ b o, h.get? b = some o → h'.get? b = some o
  new : h.objs.size ≤ e
  obj : ∃ oe vs, h'.get? e = some oe ∧ oe.cls = .ref C ∧ oe.dict = some d ∧ oe.data = .fields vs ∧ vs[1]? = some .none
  dbig : h.objs.size ≤ d
  dne : d ≠ e
  ns : h'.Ns1 d (fun y => if y = "at" then some v else none)
theorem one_size (v : Value) : [v].length ≤ sizeLine := by
  rw [sizeLine_eq]
  exact (by decide : 1 ≤ 16777216)
section
variable {prog : Program} {w : World} {A : Around} {E : Value → Shared → Prop} {h : Heap} {g : Array GenState} {d : Drawn} {t : Nat} {os : OsState}
variable {nm q : Str} {C N : Addr} {bs bm : List Value} {hdct : Bool} {sn : List Str} {sub : List Value} {ab : Bool} {col : Option Bool} {dd : Option Addr} {k0 k1 k2 k3 k5 : Option Value}
/-- ValueError.__init__ of the object, called -/
theorem call_mw {u e t0 : Addr} {rest : List Value} {Q : Value → Shared → Prop}
    (hC : h.get? C = some (excClassObj nm q C N bs bm hdct sn sub ab col dd k0 k1 k2 k3 k5 "ValueError.__new__")) (he : h.get? e = some (excO C t0)) (hu : h.get? u = some (kxs_mw "ValueError.__init__" e)) (hrest : rest.length ≤ sizeLine)
    (hq : ∀ h' t1, (∀ b o, b ≠ e → h.get? b = some o → h'.get? b = some o) → h'.get? e = some (excO C t1) → h.objs.size ≤ h'.objs.size → Q .none ⟨h', g, d, t, os⟩) :
    wpAny (model prog w) A (call (.ref u) rest) Q E ⟨h, g, d, t, os⟩ := by
  refine wpAny_call (codeAny_of_tree ?_)
  show wpAny _ A.in1 (callAny (.ref u) ⟨rest, []⟩) _ _ _
  simp only [callAny]
  refine wpAny_bind (wpAny_load hu ?_)
  simp only [kxs_mw, show (Value.type "method-wrapper" == Value.type "method" || Value.type "method-wrapper" == Value.type "builtin_function_or_method" || Value.type "method-wrapper" == Value.type "method-wrapper") = true by decide, if_true]
  refine KFB.if_so (by decide) ?_
  refine wpAny_bind (ESX.check_bound F.excBase_ValueError hC he rfl ?_)
  refine wpAny_bind (wpAny_pure (wpAny_pure ?_))
  refine ⟨plainId_quiet F.excBase_ValueError.init.plain _, codeAny_builtin F.excBase_ValueError.initEntry ?_⟩
  refine exc_init_tree (cls := .ref C) (t0 := t0) (dv := none) (c2 := .none) (c3 := .none) (b4 := .bool false) he hrest fun h' k e1 t1 => ?_
  exact hq h' h.objs.size k e1 (Nat.le_of_lt (Heap.lt_size t1))
end
section
variable {prog : Program} {w : World} {A : Around} {E : Value → Shared → Prop} {R : Result → Shared → Prop} {s : Shared} {K : Frag} {mg mb : Str → Option Value} {nm : Str} {C fI : Addr}
theorem err_init (T : ErrTxt prog K mg nm C fI) {x t0 : Addr} {v : Value} (X : K.In s.heap) (hG : s.heap.Ns mainGlobals mg) (hB : s.heap.Ns builtinsNs mb) (hb : ∀ y : Str, y ≠ "__name__" → mb y = bootBuiltins y) (hlim : s.heap.NoLimit) (hx : s.heap.get? x = some (excO C t0)) (hnx : K.lookup x = none) (hroom : A.depth < recursionLimit)
    (hq : ∀ h' tk dx t1, InitEnd s.heap h' x C dx t1 v → R (.ok (.ret .none)) { s with heap := h', toks := tk }) :
    codeAny (model prog w) A (.call (.ref fI) ⟨[.ref x, v], []⟩) R s := by
  obtain ⟨oc, od, qual, doc, pm, an, cda, cc, ct, osl, p1', p2', p0, p1, p2, p3, p4, p5, q1, q2, q3, q4, ho, hcd, ⟨cl, cld, csl, hcell⟩, hline, ccl, cdd, vs, ccs, file, tf, hcode, hvs, hfile⟩ := T.fn
  obtain ⟨nm', q, N, bs, bm, sn, sub, ab, col, dd, k0, k1, k2, k3, k5, hC, hbm⟩ := T.cls
  have hcl : clsIn K C = some { name := nm', bases := bs, mro := .ref C :: bm, ns := N, qualname := q, hasDict := true, slotNames := sn, subclasses := sub, abstract := ab, collection := col, hasDel := false } := by unfold clsIn; rw [hC] <;> rfl
  refine ks_codeAny_call_defAt (fd := ksFn "__init__" qual (iA p1' p2') (iB p0 p1 p2 p3 p4 p5 q1 q2 q3 q4) iS .none .none doc pm an (.ref cda) ct cc) (body := iB p0 p1 p2 p3 p4 p5 q1 q2 q3 q4) (binds := [("self", .ref x), ("at", v)]) hroom (X _ _ ho) rfl hlim (codeRec_of X hcd) rfl
    (BindsTo.of_eq (by first | rfl | with_unfolding_all rfl)) (show ∀ x ∈ iS.names, x.2 ≠ .cell by decide) (by first | decide | (intro y hy; simp only [List.mem_cons, List.not_mem_nil, or_false] at hy; rcases hy with rfl | rfl <;> rfl)) (fun h₁ hns k => ?_) rfl rfl rfl
  have X₁ : K.In h₁ := X.keeps k
  have hx₁ := k _ _ hx
  have I₁ : InstAt h₁ x (excO C t0) C none := ⟨hx₁, rfl, rfl, trivial⟩
  show wpAt _ _ _ (execs (iB p0 p1 p2 p3 p4 p5 q1 q2 q3 q4) (ksEnv qual iS s.heap.objs.size fI (.ref cda) cc)) _ _ _
  refine ks_wpAt_execs_cons (ks_wpAt_Expr_any (ks_wpAt_MethodCall ?_ (eval_meth hline)))
  refine ks_wpAt_super_base (env := ksEnv qual iS s.heap.objs.size fI (.ref cda) cc) rfl rfl rfl rfl (X₁ _ _ ho) rfl rfl rfl (X₁ _ _ hcode) rfl hvs hfile T.top ?_
  refine ks_loadName_global rfl rfl (loadGlobal_builtin (env := ksEnv qual iS s.heap.objs.size fI (.ref cda) cc) (hG.keeps k) T.noS (hB.keeps k) ((hb _ (by decide)).trans (show bootBuiltins "super" = some (.type "super") by first | boot_by_name | rfl | kernel_rfl)) ⟨rfl, ?_⟩)
  refine wpAny_loadName_free rfl rfl rfl ⟨_, X₁ _ _ hcell, rfl⟩ ?_
  refine wpAny_loadName_local rfl rfl hns (v := .ref x) (by first | rfl | with_unfolding_all rfl | kernel_rfl) ?_
  refine ks_wpAny_isType_cls (X₁ _ _ hC) rfl ⟨rfl, ?_⟩
  refine ks_wpAny_call_super (X₁ _ _ hC) rfl I₁.at_ I₁.cls (fun c e => by cases e) (looks_mroIn X₁ T.mro) (fun h₂ hso k₂ => ?_)
  have X₂ : K.In h₂ := X₁.keeps k₂
  have I₂ : InstAt h₂ x (excO C t0) C none := ⟨k₂ _ _ hx₁, rfl, rfl, trivial⟩
  have hsup := T.sup
  unfold ks_superIn at hsup
  rw [hcl] at hsup
  refine kxs_getMethod kxs_ValueError hso (looks_opaque X₂ T.op) (l₀ := .ref C :: bm) (fun A Q E s k q => wpAny_bind ((looks_clsIn X₂ hcl) A _ E s k (wpAny_pure q))) rfl X₂ hsup (I₂.type.andThen (looks_subIn X₂ T.veC)) (ks_ne X₂ I₂ hcl) rfl ?_
  have k₃ : ∀ b o, h₂.get? b = some o → (h₂.push (kxs_mw "ValueError.__init__" x)).get? b = some o := fun b o e => Heap.get?_push_of_some _ e
  have hu : (h₂.push (kxs_mw "ValueError.__init__" x)).get? h₂.objs.size = some (kxs_mw "ValueError.__init__" x) := Heap.get?_push_size _ rfl
  have hns₃ : Heap.Ns (h₂.push (kxs_mw "ValueError.__init__" x)) s.heap.objs.size _ := (hns.keeps k₂).keeps k₃
  generalize hgen : h₂.push (kxs_mw "ValueError.__init__" x) = h₃ at k₃ hu hns₃ ⊢
  have X₃ : K.In h₃ := X₂.keeps k₃
  refine callWith1 (i := "ValueError.__init__") (x := x) (args_cons ?_ rfl)
  refine ldC (v := v) hns₃ (by first | rfl | with_unfolding_all rfl | kernel_rfl) (args_nil ?_)
  refine ⟨hu, call_mw (X₃ _ _ hC) (k₃ _ _ (k₂ _ _ hx₁)) hu (one_size v) fun h₄ t1 k₄ hx₄ hz₄ => ?_⟩
  have hxL : s.heap.objs.size ≠ x := Nat.ne_of_gt (Heap.lt_size hx)
  have X₄ : K.In h₄ := fun a o e => k₄ a o (fun z => by rw [z, hnx] at e; cases e) (X₃ a o e)
  have hns₄ : h₄.Ns s.heap.objs.size (fun y => ([("self", Value.ref x), ("at", v)] : List (Str × Value)).reverse.lookup y) := hns₃.at fun o e => k₄ _ o hxL e
  -- self.at = at
  show wpAt _ _ _ (execs _ _) _ _ _
  refine wpAt_of_wpAny ?_
  refine wpAny_execs_cons (plainObj_wpAny_Assign_Attribute ?_)
  refine ldC (v := v) hns₄ (by first | rfl | with_unfolding_all rfl | kernel_rfl) (ldC (v := .ref x) hns₄ (by first | rfl | with_unfolding_all rfl | kernel_rfl) ?_)
  refine set_plain X₄ (ox := excO C t1) (od := none) ⟨hx₄, rfl, rfl, trivial⟩ T.sa ?_
  refine exc_osa X₄ hx₄ hcl (show refsVE (.ref C :: bm) = true from hbm) rfl T.noN (fun h₅ tk₅ dx k₅ dn dne hx₅ hn₅ => ?_)
  show wpAny _ _ (execs _ _) _ _ _
  have z : s.heap.objs.size < h₄.objs.size := hns₄.lt
  exact wpAny_execs_nil (hq h₅ tk₅ dx t1 ⟨fun b o hb e => k₅ b o hb (k₄ b o hb (k₃ _ _ (k₂ _ _ (k b o e)))), hx₅, Nat.le_of_lt (Nat.lt_of_lt_of_le z dn), dne, hn₅⟩)
theorem err_made (T : ErrTxt prog K mg nm C fI) {v : Value} (X : K.In s.heap) (hG : s.heap.Ns mainGlobals mg) (hB : s.heap.Ns builtinsNs mb) (hb : ∀ y : Str, y ≠ "__name__" → mb y = bootBuiltins y) (hlim : s.heap.NoLimit) (hroom : A.depth + 1 < recursionLimit)
    (hq : ∀ h' tk e d, OwnMade s.heap h' e C d v → R (.ok (.ret (.ref e))) { s with heap := h', toks := tk }) :
    codeAny (model prog w) A (.call (.ref C) ⟨[v], []⟩) R s := by
  obtain ⟨nm', q, N, bs, bm, sn, sub, ab, col, dd, k0, k1, k2, k3, k5, hC, hbm⟩ := T.cls
  obtain ⟨hp, g, dr, tk, os⟩ := s
  have k : ∀ b o, hp.get? b = some o → ((hp.push (kdv_tup [v])).push (excO C hp.objs.size)).get? b = some o := fun b o e => Heap.get?_push_of_some _ (Heap.get?_push_of_some _ e)
  have hget : ((hp.push (kdv_tup [v])).push (excO C hp.objs.size)).get? (hp.objs.size + 1) = some (excO C hp.objs.size) := by heap_get
  have hnx : K.lookup (hp.objs.size + 1) = none := by
    cases e : K.lookup (hp.objs.size + 1) with
    | none => rfl
    | some o =>
      have z : hp.get? (hp.objs.size + 1) = some o := X _ _ e
      exact absurd (Nat.lt_of_succ_lt (Heap.lt_size z)) (Nat.lt_irrefl _)
  refine call_own F.excBase_ValueError (fun X => refsVE_contains X bm hbm) (X _ _ hC) (looks_findIn X T.iC) (fun self => bind_fn X self T.tC) (one_size v) ?_
  refine err_init (s := ⟨(hp.push (kdv_tup [v])).push (excO C hp.objs.size), g, dr, tk, os⟩) T (X.keeps k) (hG.keeps k) (hB.keeps k) hb (hlim.keeps k) hget hnx ?_ fun h' tk' dx t1 ⟨k', hx, dn, dne, hns⟩ => ?_
  · show A.depth + 1 < recursionLimit
    exact hroom
  · have old : ∀ b o, hp.get? b = some o → h'.get? b = some o := fun b o e => k' b o (Nat.ne_of_lt (Nat.lt_succ_of_lt (Heap.lt_size e))) (k b o e)
    have z : hp.objs.size + 1 + 1 ≤ dx := by
      first
        | (simpa only [Heap.size_push] using dn)
        | exact dn
        | (have q := dn; rw [Heap.size_push, Heap.size_push] at q; exact q)
    exact ⟨rfl, hq h' tk' (hp.objs.size + 1) dx ⟨old, Nat.le_succ _, ⟨_, _, hx, rfl, rfl, rfl, rfl⟩, Nat.le_trans (Nat.le_trans (Nat.le_succ _) (Nat.le_succ _)) z, dne, hns⟩⟩
end
end BkErr
end PySem
namespace BkG
open PySem PySem.Spec PyProof.Rows L2
theorem relO_at {v : V} {v' : Value} (r : RelV v v') (f : Str) : RelO (List.lookup f [(("at" : Str), v)]) (if f = "at" then some v' else none) := by
  by_cases hw : f = "at"
  · subst hw
    rw [if_pos rfl]
    have q : List.lookup ("at" : Str) [(("at" : Str), v)] = some v := by simp [List.lookup]
    rw [q]
    exact r
  · rw [if_neg hw]
    have qw : (f == ("at" : Str)) = false := by simpa using hw
    have q2 : List.lookup f [(("at" : Str), v)] = none := by simp [List.lookup, qw]
    rw [q2]
    trivial
section
variable {X : Cx} {nm : Str} {C fI : Addr}
/-- nm(e) -/
def tMkErr (C : Addr) (ta : TA) : L2.St → Hp → XK → Prop := fun σ H Q => ta σ H fun vs H1 => ∃ v, vs = [v] ∧ ∀ d, H1 d = none → Q (.ref C) (some d) (upd H1 d (.xd [(("at" : Str), v)]))
theorem pmk_err {a : Expr} {ta : TA} {p pos : Pos} {k : Nat} (T : PySem.BkErr.ErrTxt X.prog X.K X.mg nm C fI) (hr : Room k X.A) (ha : PA X [a] ta) (hg : Gl X nm := by rfl) (hnd : (nm == ("__debug__" : Str)) = false := by decide)
    (he : starEach (a :: []) X.env = (false, eval a X.env) :: starEach [] X.env := by rfl) (hpl : (backTo pos (starEach [] X.env)).any (·.1) = false := by rfl) :
    PMk X (.Call (.Name nm p) [a] [] pos) (tMkErr C ta) := by
  intro pins s σ H Q I h
  refine wpAny_Call_Name_kw (ld_glob I hg T.gC ?_ hnd)
  refine PySem.W.callWith_K (h₀ := X.base) I.ok.mod.kin T.kC (thn (ha.run pos pins s σ H _ I h) fun us s1 hh => ?_) he hpl
  obtain ⟨vs, H1, I1, r1, v, ev, q1⟩ := hh
  subst ev
  refine ⟨I1.kIn, ?_⟩
  cases r1 with
  | cons rv rn =>
    rename_i v' us'
    cases rn
    show wpAny _ _ (call (.ref C) [v']) _ _ _
    have hlim := I1.nolimit
    obtain ⟨mb, hb1, hb2⟩ := I1.mod.blt
    have hG := I1.mod.glob.keeps I1.bk
    have hB := hb1.keeps I1.bk
    have hK := I1.kIn
    obtain ⟨hp, g, dr, tk, os⟩ := s1
    refine wpAny_call (PySem.BkErr.err_made T hK hG hB hb2 hlim (by have := hr.dp; omega) fun h' tk' e d M => ?_)
    show MkP X pins σ Q (.ref e) ⟨h', g, dr, tk', os⟩
    obtain ⟨oe, fv, hoe, hc, hd, hdat, h1⟩ := M.obj
    have hns := M.ns
    obtain ⟨G', g1, g2⟩ := restrict h' fun b => decide (b ≠ e)
    have gk : ∀ b, b ≠ e → G'.get? b = h'.get? b := fun b hb => g1 b (decide_eq_true hb)
    have ge : G'.get? e = none := g2 e (by simp)
    have old : ∀ b o, hp.get? b = some o → G'.get? b = some o := fun b o q => (gk b (Nat.ne_of_lt (Nat.lt_of_lt_of_le (Heap.lt_size q) M.new))).trans (M.keep b o q)
    have ob : ObjOk X.prog X.w (upd H1 d (.xd [(("at" : Str), v)])) G' d (.xd [(("at" : Str), v)]) :=
      ⟨_, hns.at (fun o q => (gk d M.dne).trans q), fun f => relO_at rv f⟩
    have J : Inv X pins σ (upd H1 d (.xd [(("at" : Str), v)])) ⟨G', g, dr, tk', os⟩ := I1.laid (t' := tk') old M.dbig ob
    refine ⟨e, oe, fv, ⟨G', g, dr, tk', os⟩, _, .ref C, some d, rfl, J, fun b o q => ?_, ge, hoe, ⟨hc, hd⟩, hdat, h1, ?_, rfl, I1.bare, raises_own T.exC T.tyC, q1 d (I1.hok.fresh M.dbig)⟩
    · by_cases hb : b = e
      · have q' : G'.get? b = some o := q
        rw [hb, ge] at q'; cases q'
      · exact (gk b hb).symm.trans q
    · rw [upd_ne (Ne.symm M.dne)]
      exact I1.hok.fresh M.new
/-- raise nm(e) -/
def tRaiseErr (C : Addr) (W : WX) (ta : TA) : TS := fun _ σ H => tMkErr C ta σ H fun cls d H' => W cls d σ H'
theorem ps_raiseErr {a : Expr} {ta : TA} {W : WX} {p pos pos2 : Pos} {k : Nat} (hc : X.calm = true) (T : PySem.BkErr.ErrTxt X.prog X.K X.mg nm C fI) (hr : Room k X.A) (tk : Takes X W) (ha : PA X [a] ta) (hg : Gl X nm := by rfl) (hnd : (nm == ("__debug__" : Str)) = false := by decide)
    (he : starEach (a :: []) X.env = (false, eval a X.env) :: starEach [] X.env := by rfl) (hpl : (backTo pos (starEach [] X.env)).any (·.1) = false := by rfl) :
    PS X (.Raise (some (.Call (.Name nm p) [a] [] pos)) none pos2) (tRaiseErr C W ta) := ps_raise hc tk (pmk_err T hr ha hg hnd he hpl)
/-- wrong.at, wrong the exception that the suite holds (at a; its class cls, its dict d) -/
def tAtErr (C : Addr) (a : Addr) (cls : Value) (d : Option Addr) (te : TE) : TE := fun σ H Q => te σ H fun x H1 => x = .ref a ∧ cls = .ref C ∧ ∃ (dd : Addr) (v : V), d = some dd ∧ H1 dd = some (.xd [(("at" : Str), v)]) ∧ Q v H1
end
end BkG
end
section
namespace BkG
open PySem PySem.Spec PyProof.Rows L2
/-! ### several clauses, each with a name: except X as n -/
def dAs (i : Nat) (D : Ends) : Ends := { nx := fun σ' H' => D.nx (σ'.set i none) H', rt := D.rt, bk := fun σ' H' => D.bk (σ'.set i none) H', ct := fun σ' H' => D.ct (σ'.set i none) H' }
def wManyA (K : PySem.W.Frag) (n : Nat) (Wout : WX) (D : Ends) : List (Value × Nat × (Addr → Value → Option Addr → TS)) → WX
  | [] => Wout
  | (c, i, ts) :: r => fun cls d σ H => ∃ b, PySem.W.exmOne K cls c = some b ∧ (b = true → ∀ a, H a = none → σ.length = n → ts a cls d (dAs i D) (σ.set i (some (.ref a))) H) ∧ (b = false → wManyA K n Wout D r cls d σ H)
inductive HdsA (X : Cx) : List ExceptHandler → List (Value × Nat × (Addr → Value → Option Addr → TS)) → Prop
  | nil : HdsA X [] []
  | cons {x n : Str} {i : Nat} {c : Value} {ts : Addr → Value → Option Addr → TS} {b₀ : Stmt} {suite : List Stmt} {np pos' : Pos} {hds : List ExceptHandler} {l : List (Value × Nat × (Addr → Value → Option Addr → TS))} (hi : X.N[i]? = some n) (hln : X.env.kindOf n = some .local) (hc : Names X x c)
      (hsu : ∀ (a : Addr) (oe : Obj) (cls : Value) (d : Option Addr) (pn : List (Addr × Obj)), Zc cls d oe → (∃ vs, oe.data = .fields vs) → PSs (X.suite a ((a, oe) :: pn)) (b₀ :: suite) (ts a cls d)) (r : HdsA X hds l) :
      HdsA X (.ExceptHandler (some (.Name x np)) (some n) (b₀ :: suite) pos' :: hds) ((c, i, ts) :: l)
section
variable {X : Cx} {body : List Stmt} {h₀ : ExceptHandler} {hds : List ExceptHandler} {l : List (Value × Nat × (Addr → Value → Option Addr → TS))} {pos : Pos} {tb : WX → TS} {Wout : WX}
theorem ps_try_manyA (hs : X.stack = X.env :: X.outer) (hf : X.env.frame = some X.env.locals) (hN : X.N.Nodup) (tk : Takes X Wout)
    (hb : ∀ (W : WX) (pn : List (Addr × Obj)) (xe : Value → Shared → Prop), Takes (X.tr pn xe) W → PassesOwn (model X.prog X.w) X.A X.env xe → PSs (X.tr pn xe) body (tb W))
    (hh : HdsA X (h₀ :: hds) l) : PS X (.Try body (h₀ :: hds) [] [] pos) (fun D σ H => tb (wManyA X.K X.N.length Wout D l) D σ H) := by
  refine ⟨fun pins s σ H D I h => ?_⟩
  have ok := I.ok
  have hfr : X.A.frames = some (X.env :: X.outer) := by rw [ok.frames, hs]
  refine wpAny_Try_except ?_
  refine wpAny_mono ((hb (wManyA X.K X.N.length Wout D l) (X.pn ++ pins) (fun e s₁ => wpAny (model X.prog X.w) X.A (noteFrame e X.env) (fun _ s₂ => wpAny (model X.prog X.w) X.A (setFlight e none) (fun _ s₃ =>
    wpAny (model X.prog X.w) X.A (handleBy e X.env (h₀ :: hds)) (SP X pins D) X.xe s₃) X.xe s₂) X.xe s₁) (fun u s' xx => ?_) PassesOwn.looking).run [] s σ H D (I.toTry _) h) (fun f s1 hsp => ?_) (fun e s1 he => he)
  · obtain ⟨a, B, sI, pins', σ', H', cls, d, rfl, J', nb, up, sky, na, os, ag, w⟩ := xx
    have J : Inv X pins σ' H' sI := J'.ofTry ok
    have sky' : Sky B (X.env :: X.outer) a (Zc cls d) X.env.locals s'.heap := by rw [← hs]; exact sky
    show wpAny (model X.prog X.w) X.A (noteFrame (.ref a) X.env) _ _ _
    refine Sky.land Zc.steady hfr hf sky' fun h3 fl3 up3 => ?_
    have J3 : Inv X pins σ' H' { s' with heap := h3 } := J.landed nb fl3.1 (up.trans up3) os ag
    obtain ⟨oe3, vs3, he3, hz3, hd3⟩ := fl3.there
    have notFr : ∀ {h : Heap} {o : Obj} {vs : Array Value}, h.FunFrames B (X.env :: X.outer) → h.get? a = some o → o.data = .fields vs → a ∉ frs (X.env :: X.outer) := fun {h o vs} ff e dd hm => by
      obtain ⟨_, o', e', hnf⟩ := ff.mem hm
      rw [e] at e'; cases e'
      exact hnf _ dd
    have nfr := notFr fl3.2.2.1 he3 hd3
    have nL : a ≠ X.env.locals := fun z => nfr (List.mem_filterMap.mpr ⟨X.env, List.mem_cons_self, by rw [hf, z]⟩)
    have nF : a ∉ X.fs := fun hm => by
      obtain ⟨e, he, q⟩ := List.mem_filterMap.mp hm
      exact nfr (List.mem_filterMap.mpr ⟨e, List.mem_cons_of_mem _ he, q⟩)
    have S3 := J3.suite he3 hd3 na nL nF
    have go : ∀ {hds' : List ExceptHandler} {l' : List (Value × Nat × (Addr → Value → Option Addr → TS))}, HdsA X hds' l' → wManyA X.K X.N.length Wout D l' cls d σ' H' →
        wpAny (model X.prog X.w) X.A (handleBy (.ref a) X.env hds') (SP X pins D) X.xe { s' with heap := h3 } := by
      intro hds' l' hk
      induction hk with
      | nil =>
        intro w
        refine wpAny_handleBy_nil ?_
        obtain ⟨k1, k2, k3, oe, vs, T, oT, ts', he, hz, hd, h1, hr⟩ := id fl3
        unfold PySem.passOn
        refine wpAny_bind (wpAny_field he hd h1 ?_)
        rw [if_neg (show ¬ ((Value.ref T == Value.none) = true) from by simp)]
        have fin : wpAny (model X.prog X.w) X.A (setFlight (.ref a) X.env.frame) (fun _ s4 => wpAny (model X.prog X.w) X.A (throw (.ref a) : Sem Flow) (SP X pins D) X.xe s4) X.xe { s' with heap := h3 } := by
          rw [hf]
          refine HandSPX.setFlight_upZ fl3 fun h4 hh4 up4 => wpAny_throw (tk _ _ ?_)
          exact ⟨a, B, sI, pins, σ', H', cls, d, rfl, J, nb, (up.trans up3).trans up4, .inr (.inr (by rw [hs]; exact hh4)), na, os, ag, w⟩
        first
          | exact wpAny_bind (wpAny_pure (wpAny_bind fin))
          | exact wpAny_bind fin
      | @cons x n i c ts b₀ suite np pos' hds2 l2 hi hln hc hsu r ih =>
        intro w
        obtain ⟨b, hb1, hyes, hno⟩ := w
        have hloc : Loc X.env.scope n := .inl hln
        refine wpAny_handleBy_cons (codeAny_handlers_test ?_) (by intro q; cases q)
        have LT : PySem.W.Looks (model X.prog X.w) h3 (typeOf (.ref a)) cls := fun A Q E s k q => wpAny_typeOf_ref (k _ _ he3) (by rw [hz3.1]; exact q)
        have LM := PySem.W.exm_one (M := model X.prog X.w) (J3.kIn) LT hb1
        have test : ∀ {Q : Value → Shared → Prop} {E : Value → Shared → Prop}, Q c { s' with heap := h3 } → wpAny (model X.prog X.w) (X.A.mark (some (.ref a))) (eval (.Name x np) X.env) Q E { s' with heap := h3 } := fun {Q E} q => by
          obtain ⟨hg, hdbg, hm | ⟨hm, hv, hnn⟩⟩ := hc
          · exact ld_glob (X := X.suite a ((a, oe3) :: (X.pn ++ pins))) S3 hg hm q hdbg
          · exact ld_blt (X := X.suite a ((a, oe3) :: (X.pn ++ pins))) S3 hg hm hv q hnn hdbg
        refine test (LM.here ?_)
        cases b with
        | true =>
          refine codeAny_handlers_suite_as ?_
          refine HandSPX.lands_againZ fl3 fun h4 fl4 up4 => ?_
          have J4 : Inv X pins σ' H' { s' with heap := h4 } := J.landed nb fl4.1 ((up.trans up3).trans up4) os ag
          obtain ⟨oe4, vs4, he4, hz4, hd4⟩ := fl4.there
          have S4 := J4.suite he4 hd4 na nL nF
          refine store_ok (X := X.suite a ((a, oe4) :: (X.pn ++ pins))) (v := .ref a) S4 hN hi hloc rfl (fun s5 S5 => ?_) (.inr hln)
          refine wpAny_mono ((hsu a oe4 cls d (X.pn ++ pins) hz4 ⟨_, hd4⟩).run [] s5 _ H' _ S5 (hyes rfl a na J.len)) (fun f s6 hsp => ?_) (fun _ _ z => False.elim z)
          have end_ : ∀ {σ6 : L2.St} {H6 : Hp} {Q : Shared → Prop}, Inv (X.suite a ((a, oe4) :: (X.pn ++ pins))) [] σ6 H6 s6 → (∀ s7, Inv X pins (σ6.set i none) H6 s7 → Q s7) →
              wpAny (model X.prog X.w) X.A (do bindName X.env n .none; unbindBehindTheSuite X.env n pos') (fun _ s7 => Q s7) X.xe s6 := fun {σ6 H6 Q} S6 hq => gone_ok (S6.unsuite ok) hN hi hln hq
          cases f with
          | next =>
            obtain ⟨σ6, H6, S6, q6⟩ := hsp
            exact end_ S6 fun s7 J7 => ⟨_, _, J7, q6⟩
          | brk =>
            obtain ⟨σ6, H6, S6, q6⟩ := hsp
            exact end_ S6 fun s7 J7 => ⟨_, _, J7, q6⟩
          | cont =>
            obtain ⟨σ6, H6, S6, q6⟩ := hsp
            exact end_ S6 fun s7 J7 => ⟨_, _, J7, q6⟩
          | ret u =>
            obtain ⟨v6, σ6, H6, S6, r6, q6⟩ := hsp
            exact end_ S6 fun s7 J7 => ⟨_, _, _, J7, r6, q6⟩
        | false =>
          show wpAny _ X.A (handleBy (.ref a) X.env hds2) _ _ _
          exact ih (hno rfl)
    exact go hh w
  · cases f with
    | next =>
      obtain ⟨σ', H', J', q⟩ := hsp
      exact wpAny_execs_nil ⟨σ', H', J'.ofTry ok, q⟩
    | brk =>
      obtain ⟨σ', H', J', q⟩ := hsp
      exact ⟨σ', H', J'.ofTry ok, q⟩
    | cont =>
      obtain ⟨σ', H', J', q⟩ := hsp
      exact ⟨σ', H', J'.ofTry ok, q⟩
    | ret u =>
      obtain ⟨v, σ', H', J', r, q⟩ := hsp
      exact ⟨v, σ', H', J'.ofTry ok, r, q⟩
end
/-- wrong.at, wrong the exception that the suite holds (at a; its class cls, its dict d), of a class with that field -/
def tAtA (P : Program) (K : PySem.W.Frag) (mg : Str → Option Value) (a : Addr) (cls : Value) (d : Option Addr) (te : TE) : TE := fun σ H Q => te σ H fun x H1 => x = .ref a ∧ ∃ (nm : Str) (C fI dd : Addr) (v : V), PySem.BkErr.ErrTxt P K mg nm C fI ∧ cls = .ref C ∧ d = some dd ∧ H1 dd = some (.xd [(("at" : Str), v)]) ∧ Q v H1
section
variable {X : Cx}
theorem pe_atErr {a : Addr} {oe : Obj} {cls : Value} {d : Option Addr} {pn : List (Addr × Obj)} {e : Expr} {te : TE} {pos : Pos} (hz : Zc cls d oe) (hf : ∃ vs, oe.data = .fields vs) (he : PE (X.suite a ((a, oe) :: pn)) e te)
    (hb : attributeBase e "at" X.env (eval e X.env) = eval e X.env := by rfl) :
    PE (X.suite a ((a, oe) :: pn)) (.Attribute e "at" pos) (tAtA X.prog X.K X.mg a cls d te) := by
  refine ⟨fun pins s σ H Q I h => ?_⟩
  refine attr_of hb (thn (he.run pins s σ H _ I h) fun u s1 hh => ?_)
  obtain ⟨x, H1, I1, rx, ex, nm, C, fI, dd, v, T, ec, ed, ea, q⟩ := hh
  subst ex
  obtain rfl : u = Value.ref a := rx
  subst ec
  subst ed
  obtain ⟨ha, _⟩ := I1.pin (a, oe) (List.mem_append_left _ List.mem_cons_self)
  obtain ⟨vs, hd⟩ := hf
  have hx : ObjOk X.prog X.w H1 s1.heap dd (.xd [(("at" : Str), v)]) := I1.hok dd _ ea
  obtain ⟨mA, hns, hr⟩ := hx
  obtain ⟨od, ho, hl⟩ := lookIn_ns hns
  have l : List.lookup ("at" : Str) [(("at" : Str), v)] = some v := by simp [List.lookup]
  obtain ⟨u, hu, ru⟩ := RelO.some_of (v := v) (o := mA "at") (by rw [← l]; exact hr "at")
  have J : PySem.W.InstAt s1.heap a oe C (some od) := ⟨ha, hz.1, by unfold PySem.W.notCls; rw [hd] <;> rfl, by rw [hz.2]; exact ho⟩
  exact HandSPX.exc_get I1.kIn J T.ga T.gg T.exC (PySem.W.findObj_own T.hdC T.noN rfl (by rw [hl, hu])) (handed_of ru) ⟨v, H1, I1.tok _, ru, q⟩
end
end BkG
end
section
namespace BkG
open PySem PySem.Spec PyProof.Rows L2
/-! ### defs called by keywords alone, defs that may raise -/
structure CalK (P : Program) (w : World) (K : PySem.W.Frag) (mg : Str → Option Value) (base : Heap) (k : Nat) (x : Str) (ps : List Str) (sp : Sp) : Prop where
  ex : ∃ f fd, FnOk P w K mg base CX0 k f fd ps sp ∧ mg x = some (.ref f) ∧ PySem.W.keepIn K (.ref f) = true ∧ Binds K fd ps [] ∧ KBn K fd ps 0 ps (fun _ ws => ws) (fun _ zs => zs)
structure CalR (P : Program) (w : World) (K : PySem.W.Frag) (mg : Str → Option Value) (base : Heap) (k : Nat) (x : Str) (ps : List Str) (sp : Sp) : Prop where
  ex : ∃ f fd, FnOk P w K mg base (L2.CX P w) k f fd ps sp ∧ mg x = some (.ref f) ∧ PySem.W.keepIn K (.ref f) = true ∧ Binds K fd ps [] ∧ KBn K fd ps 0 ps (fun _ ws => ws) (fun _ zs => zs)
section
variable {P : Program} {w : World} {K : PySem.W.Frag} {mg : Str → Option Value} {base : Heap}
theorem CalK.cal {k : Nat} {x : Str} {ps : List Str} {sp : Sp} (c : CalK P w K mg base k x ps sp) : Cal P w K mg base k x sp := let ⟨f, fd, F, hm, kp, b, _⟩ := c.ex; ⟨f, fd, ps, F, hm, kp, b⟩
theorem Fn.calK {x : Str} {st : Stmt} {N ps : List Str} {k : Nat} {sp : Sp} (F : Fn K mg x st ps) (S : FnScope N ps (defScope st)) (len : ∀ vs H Q E, sp vs H Q E → vs.length = ps.length)
    (hbody : ∀ (f : Addr) (cdv : Value) (A : Around) (outer : List Env) (s : Shared) (H : Hp) (vs : List V) (Q : VK) (E : XK), Room k (A.deeper (envOfC x (defScope st) s.heap.objs.size f cdv)) → sp vs H Q E →
      ∃ t, PSs (cxOf CX0 P w K mg base N x (defScope st) f cdv A outer s H E).nox (defBody st) t ∧ t { nx := fun _ H' => Q .non H', rt := Q } (start N vs) H) : CalK P w K mg base (k + 1) x ps sp := by
  obtain ⟨f, fd, F1, hm, hb, hk⟩ := F.ex
  exact ⟨f, fd, F1.ok S len (hbody f), hm, F1.kp, hb, hk⟩
theorem Fn.calR {x : Str} {st : Stmt} {N ps : List Str} {k : Nat} {sp : Sp} (F : Fn K mg x st ps) (S : FnScope N ps (defScope st)) (len : ∀ vs H Q E, sp vs H Q E → vs.length = ps.length)
    (hbody : ∀ (f : Addr) (cdv : Value) (A : Around) (outer : List Env) (s : Shared) (H : Hp) (vs : List V) (Q : VK) (E : XK), Room k (A.deeper (envOfC x (defScope st) s.heap.objs.size f cdv)) → sp vs H Q E →
      ∃ t, PSs (cxOf (L2.CX P w) P w K mg base N x (defScope st) f cdv A outer s H E) (defBody st) t ∧ t { nx := fun _ H' => Q .non H', rt := Q } (start N vs) H) : CalR P w K mg base (k + 1) x ps sp := by
  obtain ⟨f, fd, F1, hm, hb, hk⟩ := F.ex
  exact ⟨f, fd, F1.okX S len (hbody f), hm, F1.kp, hb, hk⟩
end
def tCallK (m : Nat) (sp : Sp) (E : XK) (tk : TA) : TE := fun σ H Q => tk σ H fun zs H2 => zs.length = m ∧ sp zs H2 Q E
section
variable {X : Cx} {CX : CXT} {k j : Nat} {f : Addr} {fd : FuncData} {ps : List Str} {sp : Sp} {E : XK} {W : WX} {x : Str} {p pos : Pos} {e : Expr} {es : List Expr} {kws : List Keyword} {t tk : TA}
/-- f(k = v, ..), all in the parameters' order -/
theorem pe_callK0 (F : FnOk X.prog X.w X.K X.mg X.base CX k f fd ps sp) (hr : Room k X.A) (hg : Gl X x) (hm : X.mg x = some (.ref f)) (hk : PySem.W.keepIn X.K (.ref f) = true) (hb : KBn X.K fd ps 0 ps (fun _ ws => ws) (fun _ zs => zs)) (hx : Passes CX X E)
    (hkw : PK X kws tk) (hall : (backToKw pos (keywordEach kws X.env)).all (·.1.isSome) = true := by rfl) (hks : (backToKw pos (keywordEach kws X.env)).filterMap (·.1) = ps := by rfl)
    (hdb : (x == ("__debug__" : Str)) = false := by decide)
    (hpl : ((backTo pos (starEach [] X.env)).any (·.1) || (backToKw pos (keywordEach kws X.env)).any (·.1.isNone)) = false := by rfl) :
    PE X (.Call (.Name x p) [] kws pos) (tCallK ps.length sp E tk) := by
  refine ⟨fun pins s σ H Q I h => ?_⟩
  refine wpAny_Call_Name_kw (ld_glob I hg hm ?_ hdb)
  refine PySem.W.callWith_KW0 (h₀ := X.base) I.ok.mod.kin hk hall ?_ hpl
  refine thn (hkw.run pos pins s σ H _ I h) fun ws s2 ⟨zs, H2, I2, rz, l2, q2⟩ => ⟨I2.kIn, ?_⟩
  rw [hks]
  exact run_fnN (us := []) (vs := []) F hr hb hx I2 .nil rz rfl l2 q2
theorem pe_ck {x : Str} (c : CalK X.prog X.w X.K X.mg X.base k x ps sp) (hr : Room j X.A) (hk : k ≤ j) (hg : Gl X x) (hkw : PK X kws tk)
    (hall : (backToKw pos (keywordEach kws X.env)).all (·.1.isSome) = true := by rfl) (hks : (backToKw pos (keywordEach kws X.env)).filterMap (·.1) = ps := by rfl) (hdb : (x == ("__debug__" : Str)) = false := by decide)
    (hpl : ((backTo pos (starEach [] X.env)).any (·.1) || (backToKw pos (keywordEach kws X.env)).any (·.1.isNone)) = false := by rfl) : PE X (.Call (.Name x p) [] kws pos) (tCallK ps.length sp E0 tk) := by
  obtain ⟨f, fd, F, hm, kp, _, b⟩ := c.ex
  exact pe_callK0 F (hr.mono hk) hg hm kp b pass0 hkw hall hks hdb hpl
/-- a def that may raise, called: what it lets out is taken -/
theorem pe_cr (c : CalR X.prog X.w X.K X.mg X.base k x ps sp) (hr : Room j X.A) (hk : k ≤ j) (hg : Gl X x) (tk : Takes X W) (hW : ∀ cls d σ H, E cls d H → W cls d σ H) (ha : PA X (e :: es) t)
    (hdb : (x == ("__debug__" : Str)) = false := by decide) (he : starEach (e :: es) X.env = (false, eval e X.env) :: starEach es X.env := by rfl) (hpl : (backTo pos (starEach es X.env)).any (·.1) = false := by rfl) :
    PE X (.Call (.Name x p) (e :: es) [] pos) (tCall sp [] E t) := by
  obtain ⟨f, fd, F, hm, kp, b, _⟩ := c.ex
  exact pe_call F (hr.mono hk) hg hm kp b .nil (passes_call tk hW) ha hdb he hpl
theorem pe_crk (c : CalR X.prog X.w X.K X.mg X.base k x ps sp) (hr : Room j X.A) (hk : k ≤ j) (hg : Gl X x) (tk' : Takes X W) (hW : ∀ cls d σ H, E cls d H → W cls d σ H) (hkw : PK X kws tk)
    (hall : (backToKw pos (keywordEach kws X.env)).all (·.1.isSome) = true := by rfl) (hks : (backToKw pos (keywordEach kws X.env)).filterMap (·.1) = ps := by rfl) (hdb : (x == ("__debug__" : Str)) = false := by decide)
    (hpl : ((backTo pos (starEach [] X.env)).any (·.1) || (backToKw pos (keywordEach kws X.env)).any (·.1.isNone)) = false := by rfl) : PE X (.Call (.Name x p) [] kws pos) (tCallK ps.length sp E tk) := by
  obtain ⟨f, fd, F, hm, kp, _, b⟩ := c.ex
  exact pe_callK0 F (hr.mono hk) hg hm kp b (passes_call tk' hW) hkw hall hks hdb hpl
end
/-- nothing is let out -/
theorem passN {X : Cx} : Passes (L2.CX X.prog X.w) X E0 := fun _ _ _ _ _ _ _ c => by
  obtain ⟨_, _, _, _, _, _, _, _, _, _, _, _, h⟩ := c
  exact h.elim
theorem pe_cn {X : Cx} {k j : Nat} {ps : List Str} {sp : Sp} {x : Str} {p pos : Pos} {e : Expr} {es : List Expr} {t : TA} (c : CalR X.prog X.w X.K X.mg X.base k x ps sp) (hr : Room j X.A) (hk : k ≤ j) (hg : Gl X x) (ha : PA X (e :: es) t)
    (hdb : (x == ("__debug__" : Str)) = false := by decide) (he : starEach (e :: es) X.env = (false, eval e X.env) :: starEach es X.env := by rfl) (hpl : (backTo pos (starEach es X.env)).any (·.1) = false := by rfl) :
    PE X (.Call (.Name x p) (e :: es) [] pos) (tCall sp [] E0 t) := by
  obtain ⟨f, fd, F, hm, kp, b, _⟩ := c.ex
  exact pe_call F (hr.mono hk) hg hm kp b .nil passN ha hdb he hpl
theorem pe_cnk {X : Cx} {k j : Nat} {ps : List Str} {sp : Sp} {x : Str} {p pos : Pos} {kws : List Keyword} {tk : TA} (c : CalR X.prog X.w X.K X.mg X.base k x ps sp) (hr : Room j X.A) (hk : k ≤ j) (hg : Gl X x) (hkw : PK X kws tk)
    (hall : (backToKw pos (keywordEach kws X.env)).all (·.1.isSome) = true := by rfl) (hks : (backToKw pos (keywordEach kws X.env)).filterMap (·.1) = ps := by rfl) (hdb : (x == ("__debug__" : Str)) = false := by decide)
    (hpl : ((backTo pos (starEach [] X.env)).any (·.1) || (backToKw pos (keywordEach kws X.env)).any (·.1.isNone)) = false := by rfl) : PE X (.Call (.Name x p) [] kws pos) (tCallK ps.length sp E0 tk) := by
  obtain ⟨f, fd, F, hm, kp, _, b⟩ := c.ex
  exact pe_callK0 F (hr.mono hk) hg hm kp b passN hkw hall hks hdb hpl
/-! ### what is promised of an error -/
def ErrTo (P : Program) (K : PySem.W.Frag) (mg : Str → Option Value) (E : XK) (nm : Str) (v : V) (H : Hp) : Prop :=
  ∀ (C fI d : Addr) (H' : Hp), PySem.BkErr.ErrTxt P K mg nm C fI → H d = none → Ex H H' → H' d = some (.xd [(("at" : Str), v)]) → E (.ref C) (some d) H'
theorem ErrTo.ex {P : Program} {K : PySem.W.Frag} {mg : Str → Option Value} {E : XK} {nm : Str} {v : V} {H H1 : Hp} (h : ErrTo P K mg E nm v H) (e : Ex H H1) : ErrTo P K mg E nm v H1 := fun C fI d H' T hd e' hx => h C fI d H' T (e.fresh hd) (e.trans e') hx
section
variable {X : Cx} {σ : L2.St} {H : Hp} {C : Addr} {W : WX} {ta : TA} {D : Ends}
def aErr (C : Addr) (W : WX) (σ : L2.St) : List V → Hp → Prop := fun vs H1 => ∃ v, vs = [v] ∧ ∀ d, H1 d = none → W (.ref C) (some d) σ (upd H1 d (.xd [(("at" : Str), v)]))
theorem w_raiseErr (h : ta σ H (aErr C W σ)) : tRaiseErr C W ta D σ H := h
theorem a_err {P : Program} {K : PySem.W.Frag} {mg : Str → Option Value} {E : XK} {nm : Str} {v : V} {fI : Addr} (T : PySem.BkErr.ErrTxt P K mg nm C fI) (h : ErrTo P K mg E nm v H) : aErr C (fun cls d _ H => E cls d H) σ [v] H := ⟨v, rfl, fun d hd => h C fI d _ T hd (Ex.new hd) upd_same⟩
def kCallK (m : Nat) (sp : Sp) (E : XK) (Q : VK) : List V → Hp → Prop := fun zs H2 => zs.length = m ∧ sp zs H2 Q E
theorem w_callK {m : Nat} {sp : Sp} {E : XK} {tk : TA} {Q : VK} (h : tk σ H (kCallK m sp E Q)) : tCallK m sp E tk σ H Q := h
theorem k_callK {m : Nat} {sp : Sp} {E : XK} {Q : VK} {zs : List V} (l : zs.length = m) (h : sp zs H Q E) : kCallK m sp E Q zs H := ⟨l, h⟩
end
end BkG
end
section
namespace BkG
open PySem PySem.Spec L2
/-! ### what is refused, in which order -/
def widOf : PyData → Nat
  | .int n => n.toNat
  | _ => 0
/-- none: nothing wrong; k: InvalidWord(k) -/
def chkWs (d : PyData) (ds : List PyData) : Option Nat := if isWid d = true then (ds.findIdx? fun e => !isWord (widOf d) e).map (· + 1) else some 0
theorem isWid_int {d : PyData} (h : isWid d = true) : ∃ w : Nat, d = .int w ∧ 1 ≤ w ∧ w ≤ 64 := by
  cases d with
  | int n =>
    simp only [isWid, decide_eq_true_eq] at h
    exact ⟨n.toNat, by rw [Int.toNat_of_nonneg (by omega)], by omega, by omega⟩
  | _ => simp [isWid] at h
theorem isWord_int {w : Nat} {d : PyData} (h : isWord w d = true) : ∃ a : Int, d = .int a ∧ Wd w a := by
  cases d with
  | int n =>
    simp only [isWord, decide_eq_true_eq] at h
    exact ⟨n, rfl, h⟩
  | _ => simp [isWord] at h
theorem isWord_of {w : Nat} {a : Int} (h : Wd w a) : isWord w (.int a) = true := by simp only [isWord]; exact decide_eq_true ⟨h.1, h.2⟩
theorem isWid_of {w : Nat} (h1 : 1 ≤ w) (h2 : w ≤ 64) : isWid (.int (w : Int)) = true := by simp only [isWid]; exact decide_eq_true ⟨by omega, by omega⟩
theorem chkWs_none {d : PyData} {ds : List PyData} (h : chkWs d ds = none) : isWid d = true ∧ ∀ e ∈ ds, isWord (widOf d) e = true := by
  unfold chkWs at h
  split at h
  · rename_i hw
    refine ⟨hw, fun e he => ?_⟩
    have h1 := List.findIdx?_eq_none_iff.mp (Option.map_eq_none_iff.mp h) e he
    simpa using h1
  · cases h
def spChkWX (P : Program) (K : PySem.W.Frag) (mg : Str → Option Value) : Sp := fun vs H Q E => ∃ (M : List Addr) (v x : V) (d : PyData), vs = [v, x] ∧ Dv M H v d ∧ (isWid d = true → Q .non H) ∧ (isWid d = false → ErrTo P K mg E "InvalidWord" x H)
def spChkWsX (P : Program) (K : PySem.W.Frag) (mg : Str → Option Value) : Sp := fun vs H Q E => ∃ (M : List Addr) (v : V) (t : Addr) (d : PyData) (xs : List V) (ds : List PyData), vs = [v, .ref t] ∧ Dv M H v d ∧ SqT K H t xs ∧ xs.length = ds.length ∧ (∀ (i : Nat) (x : V) (e : PyData), xs[i]? = some x → ds[i]? = some e → Dv M H x e) ∧
  (chkWs d ds = none → ∀ H', Ex H H' → Q .non H') ∧ (∀ k, chkWs d ds = some k → ErrTo P K mg E "InvalidWord" (.int (k : Int)) H)
def spBinX (P : Program) (K : PySem.W.Frag) (mg : Str → Option Value) (g : Nat → Int → Int → Int) : Sp := fun vs H Q E => ∃ (M : List Addr) (v x y : V) (d e f : PyData), vs = [v, x, y] ∧ Dv M H v d ∧ Dv M H x e ∧ Dv M H y f ∧
  (∀ (w : Nat) (a b : Int), d = .int (w : Int) → e = .int a → f = .int b → 1 ≤ w → w ≤ 64 → Wd w a → Wd w b → ∀ H', Ex H H' → Q (.int (g w a b)) H') ∧ (∀ k, chkWs d [e, f] = some k → ErrTo P K mg E "InvalidWord" (.int (k : Int)) H)
/-- an odd number -/
def isOddN : PyData → Bool
  | .int n => decide (n % 2 ≠ 0)
  | _ => false
def spTimesX (P : Program) (K : PySem.W.Frag) (mg : Str → Option Value) : Sp := fun vs H Q E => ∃ (M : List Addr) (v x y : V) (d e f : PyData), vs = [v, x, y] ∧ Dv M H v d ∧ Dv M H x e ∧ Dv M H y f ∧ (∀ n, f = .int n → n.natAbs < 2 ^ 4000) ∧
  (∀ (w : Nat) (a n : Int), d = .int (w : Int) → e = .int a → f = .int n → 1 ≤ w → w ≤ 64 → Wd w a → n % 2 ≠ 0 → ∀ H', Ex H H' → Q (.int (a * n % 2 ^ w)) H') ∧
  (∀ k, chkWs d [e] = some k → ErrTo P K mg E "InvalidWord" (.int (k : Int)) H) ∧ (chkWs d [e] = none → isOddN f = false → ErrTo P K mg E "InvalidQuestion" (.int 2) H)
/-! what two words tell, all ten -/
def opR (w : Nat) : Nat → Int → Int → Option Int
  | 7, a, b => some (if a < b then 1 else 0)
  | 8, a, b => if b = 0 then none else some (a / b)
  | 9, a, b => if b = 0 then none else some (a % b)
  | k, a, b => some (opF w k a b)
def valO : Option Int → V
  | none => .non
  | some z => .int z
def spResult10 : Sp := fun vs H Q _ => ∃ (w k : Nat) (a b : Int), vs = [.str (opV k), .int w, .int a, .int b] ∧ 1 ≤ w ∧ w ≤ 64 ∧ k < 10 ∧ Wd w a ∧ Wd w b ∧ ∀ H', Ex H H' → Q (valO (opR w k a b)) H'
def spTold10 : Sp := fun vs H Q _ => ∃ (w k : Nat) (a b : Int), vs = [.int w, .str (opV k), .int a, .int b] ∧ 1 ≤ w ∧ w ≤ 64 ∧ k < 10 ∧ Wd w a ∧ Wd w b ∧ ∀ H', Ex H H' → Q (valO (opR w k a b)) H'
inductive Out where
  | told (z : Int)
  | err (nm : Str) (at_ : Int)
/-- the number of a word of two -/
def isPairD : PyData → Option Nat
  | .str z => (List.range 10).find? fun k => decide (opV k = z)
  | _ => none
def reckOut (d p e f : PyData) : Out :=
  if isWid d = false then .err "InvalidWord" 0
  else match isPairD p with
  | none => .err "InvalidQuestion" 1
  | some k => if isWord (widOf d) e = false then .err "InvalidWord" 2 else if isWord (widOf d) f = false then .err "InvalidWord" 3 else
    match e, f with
    | .int a, .int b => match opR (widOf d) k a b with
      | none => .err "Refused" 0
      | some z => .told z
    | _, _ => .err "Refused" 0
def spReckX (P : Program) (K : PySem.W.Frag) (mg : Str → Option Value) : Sp := fun vs H Q E => ∃ (M : List Addr) (v p x y : V) (d c e f : PyData), vs = [v, p, x, y] ∧ Dv M H v d ∧ Dv M H p c ∧ Dv M H x e ∧ Dv M H y f ∧
  (∀ z, reckOut d c e f = .told z → ∀ H', Ex H H' → Q (.int z) H') ∧ (∀ nm k, reckOut d c e f = .err nm k → ErrTo P K mg E nm (.int k) H)
end BkG
end
section
namespace BkG
open PySem PySem.Spec PyProof.Rows L2 LamX
/-! ### what is told of a lambda that may be refused -/
def aTupV (Q : VK) (xs : List V) (H1 : Hp) : Prop := aTup Q xs H1
/-- which error is told by which word -/
def heardTags : List (Str × Str) := [("InvalidWord", "word"), ("InvalidQuestion", "question"), ("Refused", "refused")]
def EHeard (P : Program) (K : PySem.W.Frag) (mg : Str → Option Value) (L : List (Str × Str)) (Q : VK) : XK := fun cls d H' => ∃ (nm tag : Str) (C fI dd : Addr) (v : V), (nm, tag) ∈ L ∧ PySem.BkErr.ErrTxt P K mg nm C fI ∧ cls = .ref C ∧ d = some dd ∧ H' dd = some (.xd [(("at" : Str), v)]) ∧ aTup Q [.str tag, v] H'
def TTHeard (P : Program) (K : PySem.W.Frag) (mg : Str → Option Value) (L : List (Str × Str)) : (XK → Hp → VK → Prop) → Hp → VK → Prop := fun tl H Q => tl (EHeard P K mg L Q) H (fun v H2 => aTup Q [.str "told", v] H2)
theorem heard_err {P : Program} {K : PySem.W.Frag} {mg : Str → Option Value} {L : List (Str × Str)} {Q : VK} {nm tag : Str} {v : V} {H : Hp} (m : (nm, tag) ∈ L) (q : ∀ H', Ex H H' → aTup Q [.str tag, v] H') : ErrTo P K mg (EHeard P K mg L Q) nm v H :=
  fun C fI d H' T hd e hx => ⟨nm, tag, C, fI, d, v, m, T, rfl, rfl, hx, q H' e⟩
section
variable {σ : L2.St} {H : Hp} {Q : VK} {T : List (Addr × Str)} {TT : (XK → Hp → VK → Prop) → Hp → VK → Prop} {t : XK → TE}
theorem w_lam (hT : Tabs T H) (h : ∀ H1, ExtN H H1 → Tabs T H1 → TT (fun E H' Q' => t E σ H' Q') H1 Q) : tLam T TT t σ H Q := ⟨hT, h⟩
end
theorem ExtN.at {H H1 : Hp} {a : Addr} {o : HO} (e : ExtN H H1) (h : H a = some o) (n : ∀ ps, o ≠ .tbl ps) : H1 a = some o := e a o h n
theorem Deal.extN {H H' : Hp} {D L : Addr} (h : Deal H D L) (e : ExtN H H') : Deal H' D L := by
  obtain ⟨st, b, d⟩ := h
  exact ⟨st, b, e _ _ d.hD (fun _ h => by cases h), e _ _ d.hL (fun _ h => by cases h), d.len, d.all, d.b0, d.b1⟩
theorem Ex.extN {H H' : Hp} (e : Ex H H') : ExtN H H' := .of e
theorem tabs_kp {T : List (Addr × Str)} {H H' : Hp} {M : List Addr} (t : Tabs T H) (k : Kp M H H') (n : ∀ p ∈ T, p.1 ∉ M ∧ ∀ c q, H c = some (CodeO c q) → c ∉ M) : Tabs T H' := fun p hp => by
  obtain ⟨ps, h1, h2, h3⟩ := t p hp
  obtain ⟨n1, n2⟩ := n p hp
  refine ⟨ps, k _ _ h1 n1, h2, fun pos cv hc => ?_⟩
  obtain ⟨c, e1, e2⟩ := h3 pos cv hc
  exact ⟨c, e1, k _ _ e2 (n2 _ _ e2)⟩
theorem tabs_kpD {T : List (Addr × Str)} {H H' : Hp} {D L : Addr} (t : Tabs T H) (k : Kp [D, L] H H') (d : Deal H D L) : Tabs T H' := by
  obtain ⟨st, b, d⟩ := d
  refine tabs_kp t k fun p hp => ⟨?_, fun c q hc => ?_⟩
  · obtain ⟨ps, h1, _⟩ := t p hp
    have a1 : p.1 ≠ D := fun e => by rw [e, d.hD] at h1; cases h1
    have a2 : p.1 ≠ L := fun e => by rw [e, d.hL] at h1; cases h1
    simp [a1, a2]
  · have a1 : c ≠ D := fun e => by rw [e, d.hD] at hc; unfold CodeO at hc; cases hc
    have a2 : c ≠ L := fun e => by rw [e, d.hL] at hc; unfold CodeO at hc; cases hc
    simp [a1, a2]
theorem tabs_kp1 {T : List (Addr × Str)} {H H' : Hp} {S : Addr} {xs : List V} (t : Tabs T H) (k : Kp [S] H H') (hS : H S = some (.lst xs)) : Tabs T H' := by
  refine tabs_kp t k fun p hp => ⟨?_, fun c q hc => ?_⟩
  · obtain ⟨ps, h1, _⟩ := t p hp
    have a1 : p.1 ≠ S := fun e => by rw [e, hS] at h1; cases h1
    simp [a1]
  · have a1 : c ≠ S := fun e => by rw [e, hS] at hc; unfold CodeO at hc; cases hc
    simp [a1]
theorem tabs_mut {T : List (Addr × Str)} {H H' : Hp} {S : Addr} {xs : List V} (t : Tabs T H) (k : ∀ a o, a ≠ S → H a = some o → H' a = some o) (hS : H S = some (.lst xs)) : Tabs T H' :=
  tabs_kp1 t (S := S) (fun a o h n => k a o (by simpa using n) h) hS
theorem exm_b {K : PySem.W.Frag} {S C : Addr} {b : Bool} (h1 : PySem.W.subIn K (.ref S) (.type "BaseException") = some true) (h2 : PySem.W.isClsIn K S = true) (h3 : PySem.W.typeIn K (.ref S) = some (.type "type")) (h4 : PySem.W.subIn K (.ref C) (.ref S) = some b) : PySem.W.exmOne K (.ref C) (.ref S) = some b := by
  have e1 : (PySem.W.subIn K (.ref S) (.type "BaseException") == some true) = true := by rw [h1] <;> rfl
  have e2 : ((PySem.W.clsIn K S).isSome && PySem.W.typeIn K (.ref S) == some (.type "type")) = true := by
    have h2' : (PySem.W.clsIn K S).isSome = true := h2
    rw [h2', h3] <;> rfl
  show (if (PySem.W.subIn K (.ref S) (.type "BaseException") == some true) = true then (if ((PySem.W.clsIn K S).isSome && PySem.W.typeIn K (.ref S) == some (.type "type")) = true then PySem.W.subIn K (.ref C) (.ref S) else none) else none) = some b
  rw [if_pos e1, if_pos e2]
  exact h4
/-- the def's code object and its table -/
theorem tab_in {K : PySem.W.Frag} {x : Str} {f c P' : Addr} {oc kc : Value} {od kd : Option Addr} {osl ksl : Array (Option Value)} {fd : FuncData} {kvs : Array Value} (a : PySem.W.nsIn K mainGlobals x = some (some (.ref f))) (l : K.lookup f = some ⟨oc, od, .func fd, osl⟩) (hc : fd.code = .ref c)
    (lc : K.lookup c = some ⟨kc, kd, .fields kvs, ksl⟩) (pv : (kvs[11]? : Option Value) = some (.ref P')) : PySem.W.tabIn K x = some (c, P') := by
  unfold PySem.W.tabIn
  rw [a]
  simp only
  rw [l]
  simp only
  rw [hc]
  simp only
  rw [lc]
  simp only
  rw [pv]
/-! ### the end of the row: the top's facts are handed on -/
theorem walk_ofTs2 {l : PySem.W.OpenLaw} {n k : Nat} {q : Program} {loose : List Str} {XP : (Str → Option Value) → Heap → Prop} {YP : World → Heap → Prop} {d : DefRec} {K : Params → PySem.W.Frag} {CX : World → CXT} {x : Str}
    (hn : l.most = some n) (hn2 : n ≤ sizeLine) (hdf : d.params.defaults = []) (hr : Room k callerA) (hY : ∀ (w : World) (h : Heap), YP w h → (K w.params).In h)
    (F : ∀ (w : World) (mg : Str → Option Value) (fa : Addr) (h : Heap), YP w h → (K w.params).In h → h.Ns mainGlobals mg → (∀ {d' : DefRec} {x' : Str} {c P : Addr}, (recsOf q).find? (fun e => e.name == x') = some d' → PySem.W.tabIn (K w.params) x' = some (c, P) → PySem.W.CodeHd h c P ∧ h.get? P = some (PySem.W.tabObj #[])) → mg d.name = some (.ref fa) → LawAtS l w (K w.params) (CX w) k n x mg fa h)
    (hCX : ∀ (w : World) (H : Hp) (s : Shared) (e : Value) (s' : Shared), CX w [] H s (fun _ _ _ => False) e s' → False) :
    PySem.W.WalkO q loose XP YP l.row.toRowW d [] (fun f vs => PySem.call f vs) := by
  refine Att.attach_callB hn hdf fun w s₀ s₁ mg mb fa o pm cd doc a vs ns G Y ho hd hcd hmg hobj hints hlen hbits hg => ?_
  have KX := hY w _ Y
  obtain ⟨fd, cs, sp, hT, nT, C, hb, hsp, hF⟩ := F w mg fa _ Y KX G.T.g (fun hr ht => PySem.W.tab_of G.T KX hr ht) hmg
  exact law_callTs KX G.T.g G.T.b G.T.builtins G.T.nolimit hg hT nT C G.T.bmain hobj hints (Nat.le_trans hlen hn2) hr hF hb (fun H hH hS => hsp H a ns hlen hbits hH hS) fun H e s' => hCX w H s₁ e s'
end BkG
end
section
namespace BkG
open PySem PySem.Spec L2
/-! ### plain data compared -/
theorem depthAll_le {k : Nat} : ∀ {ds : List PyData}, (∀ d ∈ ds, d.depth ≤ k) → PyData.depthAll ds ≤ k
  | [], _ => Nat.zero_le _
  | d :: ds, h => Nat.max_le.mpr ⟨h d (by simp), depthAll_le fun e he => h e (by simp [he])⟩
theorem depth_okD : ∀ {n : Nat} {d : PyData}, okD n d = true → d.depth ≤ n
  | n, .none, _ => Nat.zero_le _
  | n, .bool _, _ => Nat.zero_le _
  | n, .int _, _ => Nat.zero_le _
  | n, .str _, _ => Nat.zero_le _
  | 0, .list _, h => by simp [okD] at h
  | 0, .tuple _, h => by simp [okD] at h
  | 0, .dict _, h => by simp [okD] at h
  | _ + 1, .dict _, h => by simp [okD] at h
  | n + 1, .list xs, h => by
    simp only [okD, Bool.and_eq_true, List.all_eq_true] at h
    exact Nat.succ_le_succ (depthAll_le fun d hd => depth_okD (h.2 d hd))
  | n + 1, .tuple xs, h => by
    simp only [okD, Bool.and_eq_true, List.all_eq_true] at h
    exact Nat.succ_le_succ (depthAll_le fun d hd => depth_okD (h.2 d hd))
theorem layAll_iff : ∀ {ds : List PyData}, PyData.canLayAll0 ds = true ↔ ∀ d ∈ ds, PyData.canLay0 d = true
  | [] => by simp [PyData.canLayAll0]
  | d :: ds => by
    rw [PyData.canLayAll0, Bool.and_eq_true, layAll_iff (ds := ds)]
    simp
/-- data that may be compared: at most n deep, its texts such as can be -/
def nice (n : Nat) (d : PyData) : Bool := okD n d && PyData.canLay0 d
theorem nice.ok {n : Nat} {d : PyData} (h : nice n d = true) : okD n d = true := by unfold nice at h; rw [Bool.and_eq_true] at h; exact h.1
theorem nice.lay {n : Nat} {d : PyData} (h : nice n d = true) : PyData.canLay0 d = true := by unfold nice at h; rw [Bool.and_eq_true] at h; exact h.2
theorem nice.mk {n : Nat} {d : PyData} (h1 : okD n d = true) (h2 : PyData.canLay0 d = true) : nice n d = true := by unfold nice; rw [h1, h2]; rfl
theorem nice.mono {n m : Nat} {d : PyData} (h : nice n d = true) (l : n ≤ m) : nice m d = true := nice.mk (okD.mono l (nice.ok h)) (nice.lay h)
theorem nice.shaped {n : Nat} {d : PyData} (h : nice n d = true) (hn : n ≤ 64) : SeqAt.shaped d = true := by
  unfold SeqAt.shaped
  rw [nice.lay h, decide_eq_true (Nat.le_trans (depth_okD (nice.ok h)) hn)]
  rfl
theorem nice.tup_in {n : Nat} {ds : List PyData} {d : PyData} (h : nice (n + 1) (.tuple ds) = true) (hd : d ∈ ds) : nice n d = true := by
  have h1 := nice.ok h
  have h2 := nice.lay h
  simp only [okD, Bool.and_eq_true, List.all_eq_true] at h1
  exact nice.mk (h1.2 d hd) (layAll_iff.mp h2 d hd)
theorem nice.tup_len {n : Nat} {ds : List PyData} (h : nice n (.tuple ds) = true) : ds.length ≤ 90000 := by
  have h1 := nice.ok h
  cases n with
  | zero => simp [okD] at h1
  | succ n => simp only [okD, Bool.and_eq_true, decide_eq_true_eq] at h1; exact h1.1
theorem nice.tup {n : Nat} {ds : List PyData} (l : ds.length ≤ 90000) (h : ∀ d ∈ ds, nice n d = true) : nice (n + 1) (.tuple ds) = true :=
  nice.mk (by simp only [okD, Bool.and_eq_true, decide_eq_true_eq, List.all_eq_true]; exact ⟨l, fun d hd => nice.ok (h d hd)⟩) (layAll_iff.mpr fun d hd => nice.lay (h d hd))
theorem nice.lst {n : Nat} {ds : List PyData} (l : ds.length ≤ 90000) (h : ∀ d ∈ ds, nice n d = true) : nice (n + 1) (.list ds) = true :=
  nice.mk (by simp only [okD, Bool.and_eq_true, decide_eq_true_eq, List.all_eq_true]; exact ⟨l, fun d hd => nice.ok (h d hd)⟩) (layAll_iff.mpr fun d hd => nice.lay (h d hd))
theorem nice.pos {n : Nat} {ds : List PyData} (h : nice n (.tuple ds) = true) : ∃ m, n = m + 1 := by
  have h1 := nice.ok h
  cases n with
  | zero => simp [okD] at h1
  | succ n => exact ⟨n, rfl⟩
def strIs (d : PyData) (t : Str) : Bool := match d with
  | .str s => s == t
  | _ => false
theorem eqv_str {d : PyData} {t : Str} : PyData.eqv d (.str t) = strIs d t := by cases d <;> simp [PyData.eqv, strIs]
theorem smD_str {d : PyData} {t : Str} : smD d (.str t) = strIs d t := by cases d <;> simp [smD, strIs]
theorem eqv_nilT {ds : List PyData} : PyData.eqv (.tuple ds) (.tuple []) = ds.isEmpty := by cases ds <;> simp [PyData.eqv, PyData.eqvAll]
theorem okD_str (t : Str) (n : Nat) : okD n (.str t) = true := by cases n <;> rfl
/-! ### kinds of values -/
def kindS : Nat → Str
  | 0 => "word" | 1 => "array" | 2 => "stack" | 3 => "in" | _ => "out"
def kindsV : List V := [.str "word", .str "array", .str "stack", .str "in", .str "out"]
def isKindD : PyData → Bool
  | .str s => inV (.str s) kindsV
  | _ => false
def areKindsD : PyData → Bool
  | .tuple ds => decide (ds.length ≤ 20) && ds.all isKindD
  | _ => false
def wordsD (w most : Nat) : PyData → Bool
  | .tuple ds => decide (ds.length ≤ most) && ds.all (isWord w)
  | _ => false
def tagK (k : Nat) : Str := if k = 2 then "stack" else "channel"
def isOfD (w : Nat) : Nat → PyData → Bool
  | 0, d => isWord w d
  | 1, .tuple ds => wordsD w 200 (.tuple ds) && !ds.isEmpty
  | k + 2, .tuple [h, t] => strIs h (tagK (k + 2)) && wordsD w 2000 t
  | _, _ => false
def kindsOfD (w : Nat) (d : PyData) : List Nat := (List.range 5).filter fun k => isOfD w k d
def nothingD : Nat → PyData
  | 0 => .int 0 | 1 => .tuple [.int 0] | 2 => .tuple [.str "stack", .tuple []] | _ => .tuple [.str "channel", .tuple []]
def kindsT (ks : List Nat) : List PyData := ks.map fun k => .str (kindS k)
def emptyD (ks : List Nat) : PyData := .tuple (ks.map nothingD)
def fitD (w : Nat) (ks : List Nat) : PyData → Bool
  | .tuple ds => decide (ds.length = ks.length) && (ds.zip ks).all fun p => isOfD w p.2 p.1
  | _ => false
theorem cases5 {k : Nat} (h : k < 5) : k = 0 ∨ k = 1 ∨ k = 2 ∨ k = 3 ∨ k = 4 := by omega
theorem kind_at {i : Nat} {x : V} (h : kindsV[i]? = some x) : i < 5 ∧ x = .str (kindS i) := by
  have hi : i < 5 := (List.getElem?_eq_some_iff.mp h).1
  refine ⟨hi, ?_⟩
  rcases cases5 hi with rfl | rfl | rfl | rfl | rfl <;> (cases h; rfl)
theorem isKindD_inv {d : PyData} (h : isKindD d = true) : ∃ k, k < 5 ∧ d = .str (kindS k) := by
  cases d with
  | str s =>
    have h1 : inV (.str s) kindsV = true := h
    unfold inV at h1
    rw [List.any_eq_true] at h1
    obtain ⟨y, hy, he⟩ := h1
    obtain ⟨i, hi⟩ := List.getElem?_of_mem hy
    obtain ⟨h5, rfl⟩ := kind_at hi
    have e : kindS i = s := by
      have h' : (kindS i == s) = true := he
      exact eq_of_beq h'
    exact ⟨i, h5, by rw [e]⟩
  | _ => cases h
theorem isKindD_of {k : Nat} (h : k < 5) : isKindD (.str (kindS k)) = true := by
  rcases cases5 h with rfl | rfl | rfl | rfl | rfl <;> decide +kernel
theorem areKindsD_inv {d : PyData} (h : areKindsD d = true) : ∃ ks, d = .tuple (kindsT ks) ∧ ks.length ≤ 20 ∧ ∀ k ∈ ks, k < 5 := by
  cases d with
  | tuple ds =>
    simp only [areKindsD, Bool.and_eq_true, decide_eq_true_eq, List.all_eq_true] at h
    have : ∀ ds : List PyData, (∀ d ∈ ds, isKindD d = true) → ∃ ks, ds = kindsT ks ∧ ∀ k ∈ ks, k < 5 := by
      intro ds
      induction ds with
      | nil => exact fun _ => ⟨[], rfl, by simp⟩
      | cons d ds ih =>
        intro h
        obtain ⟨ks, rfl, h5⟩ := ih fun e he => h e (by simp [he])
        obtain ⟨k, hk, rfl⟩ := isKindD_inv (h d (by simp))
        exact ⟨k :: ks, rfl, fun j hj => by
          rcases List.mem_cons.mp hj with rfl | hj
          · exact hk
          · exact h5 j hj⟩
    obtain ⟨ks, rfl, h5⟩ := this ds h.2
    exact ⟨ks, rfl, by simpa [kindsT] using h.1, h5⟩
  | _ => cases h
theorem areKindsD_of {ks : List Nat} (l : ks.length ≤ 20) (h : ∀ k ∈ ks, k < 5) : areKindsD (.tuple (kindsT ks)) = true := by
  simp only [areKindsD, Bool.and_eq_true, decide_eq_true_eq, List.all_eq_true]
  refine ⟨by simpa [kindsT] using l, fun d hd => ?_⟩
  obtain ⟨k, hk, rfl⟩ := List.mem_map.mp hd
  exact isKindD_of (h k hk)
theorem r_isiLT {K : PySem.W.Frag} {M : List Addr} {H : Hp} {Q : VK} {v : V} {d : PyData} {p : Addr} (hp : H p = some (.tup [.ty "list", .ty "tuple"])) (h : Dv M H v d) (q : Q (.bl (isTup d || isLst d)) H) : rIsiT K [v, .ref p] H Q := by
  have n := h.nodict
  have h1 : PySem.W.kitOne K (.type (tyN d)) (.type "list") = some (isLst d) := kit_ty (by cases d <;> first | exact absurd rfl (n _) | (simp only [tyN, isTup, isLst]; decide +kernel))
  have h2 : PySem.W.kitOne K (.type (tyN d)) (.type "tuple") = some (isTup d) := kit_ty (by cases d <;> first | exact absurd rfl (n _) | (simp only [tyN, isTup, isLst]; decide +kernel))
  rw [Bool.or_comm] at q
  refine ⟨v, p, _, _, [.type "list", .type "tuple"], _, rfl, hp, .cons (.ty _) (.cons (.ty _) .nil), h.ty, kitAny_cons (r := isLst d || isTup d) h1 (fun e => ?_) (fun e => by rw [e]; rfl), q⟩
  rw [e, Bool.false_or]
  exact kitAny_cons h2 (fun e => by rw [e]; exact kitAny_nil) fun e => e
theorem r_all {K : PySem.W.Frag} {H : Hp} {Q : VK} {a : Addr} {bs : List Bool} (h : H a = some (.lst (bs.map V.bl))) (q : Q (.bl (bs.all id)) H) : rAll K [.ref a] H Q := ⟨a, bs, rfl, .of h, q⟩
theorem r_any {K : PySem.W.Frag} {H : Hp} {Q : VK} {a : Addr} {bs : List Bool} (h : H a = some (.lst (bs.map V.bl))) (q : Q (.bl (bs.any id)) H) : rAny K [.ref a] H Q := ⟨a, bs, rfl, .of h, q⟩
theorem take_map_more {α β : Type} {f : α → β} {l : List α} {i : Nat} {x : α} (h : l[i]? = some x) : (l.take (i + 1)).map f = (l.take i).map f ++ [f x] := by
  rw [List.take_add_one, h]; simp
theorem r_neD2 {K : PySem.W.Frag} {M : List Addr} {H : Hp} {Q : VK} {x y : V} {d e : PyData} (h1 : Dv M H x d) (h2 : Dv M H y e) (s1 : nice 60 d = true) (s2 : nice 60 e = true) (q : Q (.bl (!PyData.eqv d e)) H) : rNeD K x y H Q := r_neD h1.dp h2.dp (nice.shaped s1 (by decide)) (nice.shaped s2 (by decide)) q
theorem r_eqD2 {K : PySem.W.Frag} {M : List Addr} {H : Hp} {Q : VK} {x y : V} {d e : PyData} (h1 : Dv M H x d) (h2 : Dv M H y e) (s1 : nice 60 d = true) (s2 : nice 60 e = true) (q : Q (.bl (PyData.eqv d e)) H) : rEqD K x y H Q := r_eqD h1.dp h2.dp (nice.shaped s1 (by decide)) (nice.shaped s2 (by decide)) q
theorem dv_nilT {M : List Addr} {H : Hp} {p : Addr} (h : H p = some (.tup [])) : Dv M H (.ref p) (.tuple []) := .tup h rfl fun i v d h1 => by cases h1
theorem dv_nilL {H : Hp} {p : Addr} (h : H p = some (.lst [])) : Dv [] H (.ref p) (.list []) := .lst h (by simp) rfl fun i v d h1 => by cases h1
theorem nice_word {w n : Nat} {d : PyData} (h : isWord w d = true) : nice n d = true := by
  obtain ⟨a, rfl, _⟩ := isWord_int h
  exact nice.mk (by cases n <;> rfl) rfl
theorem nice_words {w most n : Nat} {d : PyData} (h : wordsD w most d = true) (hm : most ≤ 2000) : nice (n + 1) d = true := by
  cases d with
  | tuple ds =>
    simp only [wordsD, Bool.and_eq_true, decide_eq_true_eq, List.all_eq_true] at h
    exact nice.tup (by omega) fun d hd => nice_word (h.2 d hd)
  | _ => cases h
def spKind : Sp := fun vs H Q _ => ∃ M v d, vs = [v] ∧ Dv M H v d ∧ Q (.bl (isKindD d)) H
def spSeqq : Sp := fun vs H Q _ => ∃ M v d, vs = [v] ∧ Dv M H v d ∧ ∀ H', Ex H H' → Q (.bl (isTup d || isLst d)) H'
def spKinds : Sp := fun vs H Q _ => ∃ M v d, vs = [v] ∧ Dv M H v d ∧ ∀ H', Ex H H' → Q (.bl (areKindsD d)) H'
def spWords : Sp := fun vs H Q _ => ∃ (M : List Addr) (v : V) (d : PyData) (w most : Nat), vs = [v, .int w, .int most] ∧ 1 ≤ w ∧ w ≤ 64 ∧ most ≤ 2000 ∧ Dv M H v d ∧ ∀ H', Ex H H' → Q (.bl (wordsD w most d)) H'
def spOfKind : Sp := fun vs H Q _ => ∃ (M : List Addr) (v : V) (d : PyData) (k w : Nat), vs = [v, .str (kindS k), .int w] ∧ k < 5 ∧ 1 ≤ w ∧ w ≤ 64 ∧ Dv M H v d ∧ nice 60 d = true ∧ ∀ H', Ex H H' → Q (.bl (isOfD w k d)) H'
def spIsValue (P : Program) (K : PySem.W.Frag) (mg : Str → Option Value) : Sp := fun vs H Q E => ∃ (M : List Addr) (v u : V) (d e : PyData), vs = [v, u] ∧ Dv M H v d ∧ nice 60 d = true ∧ Dv M H u e ∧
  (isWid e = true → ∀ H', Ex H H' → Q (.bl !(kindsOfD (widOf e) d).isEmpty) H') ∧ (isWid e = false → ErrTo P K mg E "InvalidWord" (.int 1) H)
def spKindsOf (P : Program) (K : PySem.W.Frag) (mg : Str → Option Value) : Sp := fun vs H Q E => ∃ (M : List Addr) (v u : V) (d e : PyData), vs = [v, u] ∧ Dv M H v d ∧ (isWid e = true → nice 60 d = true) ∧ Dv M H u e ∧
  (isWid e = true → kindsOfD (widOf e) d ≠ [] → ∀ p H', Ex H H' → H' p = some (.tup ((kindsOfD (widOf e) d).map fun k => V.str (kindS k))) → Q (.ref p) H') ∧ (isWid e = false → ErrTo P K mg E "InvalidWord" (.int 1) H) ∧ (isWid e = true → kindsOfD (widOf e) d = [] → ErrTo P K mg E "InvalidQuestion" (.int 0) H)
def spFitKinds : Sp := fun vs H Q _ => ∃ (M : List Addr) (v t : V) (d : PyData) (ks : List Nat) (w : Nat), vs = [v, t, .int w] ∧ 1 ≤ w ∧ w ≤ 64 ∧ Dv M H v d ∧ nice 60 d = true ∧ Dv M H t (.tuple (kindsT ks)) ∧ (∀ k ∈ ks, k < 5) ∧ ks.length ≤ 20 ∧ ∀ H', Ex H H' → Q (.bl (fitD w ks d)) H'
def spFit (P : Program) (K : PySem.W.Frag) (mg : Str → Option Value) : Sp := fun vs H Q E => ∃ (M : List Addr) (v t u : V) (d e f : PyData), vs = [v, t, u] ∧ Dv M H v d ∧ nice 60 d = true ∧ Dv M H t e ∧ Dv M H u f ∧
  (∀ ks, e = .tuple (kindsT ks) → (∀ k ∈ ks, k < 5) → ks.length ≤ 20 → isWid f = true → ∀ H', Ex H H' → Q (.bl (fitD (widOf f) ks d)) H') ∧
  (areKindsD e = false → ErrTo P K mg E "InvalidQuestion" (.int 1) H) ∧ (areKindsD e = true → isWid f = false → ErrTo P K mg E "InvalidWord" (.int 2) H)
def seqKinds : PyData → Bool
  | .tuple ds => areKindsD (.tuple ds)
  | .list ds => areKindsD (.tuple ds)
  | _ => false
def spEmpty (P : Program) (K : PySem.W.Frag) (mg : Str → Option Value) : Sp := fun vs H Q E => ∃ (M : List Addr) (v : V) (d : PyData), vs = [v] ∧ Dv M H v d ∧ (∀ ds, d = .list ds → ds.length ≤ 90000) ∧
  (∀ ks, (d = .tuple (kindsT ks) ∨ d = .list (kindsT ks)) → (∀ k ∈ ks, k < 5) → ks.length ≤ 20 → ∀ v' H', Ex H H' → (∀ M', Dv M' H' v' (emptyD ks)) → Q v' H') ∧ (seqKinds d = false → ErrTo P K mg E "InvalidQuestion" (.int 0) H)
def spIsOfK : Sp := fun vs H Q _ => ∃ (M : List Addr) (v : V) (d : PyData) (k w : Nat), vs = [v, .str (kindS k), .int w] ∧ k < 5 ∧ w ≤ 64 ∧ Dv M H v d ∧ nice 4 d = true ∧ ∀ H', Ex H H' → Q (.bl (isOfD w k d)) H'
def spValue : Sp := fun vs H Q _ => ∃ (D L : Addr) (k w : Nat), vs = [.ref D, .str (kindS k), .int w] ∧ k < 5 ∧ 1 ≤ w ∧ w ≤ 64 ∧ Deal H D L ∧ ∀ (v : V) (d : PyData) (H' : Hp), (∀ M, Dv M H' v d) → isOfD w k d = true → nice 3 d = true → Deal H' D L → Kp [D, L] H H' → Q v H'
def spNear : Sp := fun vs H Q _ => ∃ (D L : Addr) (M : List Addr) (v : V) (d : PyData) (w : Nat), vs = [.ref D, v, .int w] ∧ w ≤ 64 ∧ (∀ a ∈ M, H a ≠ none) ∧ Dv (D :: L :: M) H v d ∧ nice 3 d = true ∧ Deal H D L ∧ ∀ (v : V) (d : PyData) (H' : Hp), Dv (D :: L :: M) H' v d → nice 4 d = true → Deal H' D L → Kp [D, L] H H' → Q v H'
theorem Dv.sub {M M' : List Addr} {H : Hp} {v : V} {d : PyData} (h : Dv M H v d) (s : ∀ a, a ∈ M' → a ∈ M) : Dv M' H v d := by
  induction h with
  | non => exact .non
  | bl b => exact .bl b
  | int i => exact .int i
  | str x => exact .str x
  | lst h n l t ih => exact .lst h (fun z => n (s _ z)) l ih
  | tup h l t ih => exact .tup h l ih
/-- without lists -/
theorem Dv.allKt {H H' : Hp} (k : Kt H H') : ∀ (d : PyData) (v : V), (∀ M, Dv M H v d) → ∀ M, Dv M H' v d
  | .none, v, h, M => by cases h []; exact .non
  | .bool b, v, h, M => by cases h []; exact .bl _
  | .int i, v, h, M => by cases h []; exact .int _
  | .str s, v, h, M => by cases h []; exact .str _
  | .dict kvs, v, h, M => by cases h []
  | .list ds, v, h, M => by
    obtain ⟨a, xs, rfl, _⟩ := (h []).lst_inv
    obtain ⟨b, ys, e, _, n, _⟩ := (h [a]).lst_inv
    cases e
    exact absurd (List.mem_singleton.mpr rfl) n
  | .tuple ds, v, h, M => by
    obtain ⟨a, xs, rfl, ha, hl, _⟩ := (h []).tup_inv
    refine .tup (k _ _ ha) hl fun i x d hx hd => ?_
    have hm := List.sizeOf_lt_of_mem (List.mem_of_getElem? hd)
    refine Dv.allKt k d x (fun M2 => ?_) M
    obtain ⟨b, ys, e, hb, _, ht⟩ := (h M2).tup_inv
    cases e
    rw [ha] at hb; cases hb
    exact ht i x d hx hd
  termination_by d => sizeOf d
  decreasing_by simp_wf; omega
end BkG
end
section
namespace BkG
open PySem PySem.Spec L2
/-! ### {k: v, ..}, d[k], tuple(..) -/
def kDisp (p : Addr) (Q : VK) : List (V × V) → Hp → Prop := fun ps H2 => H2 p = some (.dK []) ∧ ∃ kvs : List (Key × V), ps = kvs.map (fun kv => (kV kv.1, kv.2)) ∧ kvs.length ≤ 15 ∧ Q (.ref p) (upd H2 p (.dK (mergeK [] kvs)))
section
variable {σ : L2.St} {H : Hp} {Q : VK}
theorem w_disp {trs : List (TE × TE)} (h : ∀ p H1, H p = none → Ex H H1 → H1 p = some (.dK []) → tPairs trs σ H1 (kDisp p Q)) : tDisp trs σ H Q := fun p hp => h p _ hp (Ex.new hp) upd_same
theorem w_pair {tk tv : TE} {r : List (TE × TE)} {Q : List (V × V) → Hp → Prop} (h : tk σ H fun x H1 => tv σ H1 fun y H2 => tPairs r σ H2 fun ps H3 => Q ((x, y) :: ps) H3) : tPairs ((tk, tv) :: r) σ H Q := h
theorem w_pairN {Q : List (V × V) → Hp → Prop} (h : Q [] H) : tPairs [] σ H Q := h
theorem k_disp {p : Addr} {ps : List (V × V)} (kvs : List (Key × V)) (hp : H p = some (.dK [])) (e : ps = kvs.map (fun kv => (kV kv.1, kv.2))) (hl : kvs.length ≤ 15) (q : ∀ H2, (∀ a o, a ≠ p → H a = some o → H2 a = some o) → H2 p = some (.dK (mergeK [] kvs)) → Q (.ref p) H2) : kDisp p Q ps H :=
  ⟨hp, kvs, e, hl, q _ (fun a o n h => by rw [upd_ne n]; exact h) upd_same⟩
theorem mk_tup {ys : List V} (q : ∀ p H2, H p = none → Ex H H2 → H2 p = some (.tup ys) → Q (.ref p) H2) : ∀ l, H l = none → Q (.ref l) (upd H l (.tup ys)) := fun l hl => q l _ hl (Ex.new hl) upd_same
theorem mk_lst {ys : List V} (q : ∀ p H2, H p = none → Ex H H2 → H2 p = some (.lst ys) → Q (.ref p) H2) : ∀ l, H l = none → Q (.ref l) (upd H l (.lst ys)) := fun l hl => q l _ hl (Ex.new hl) upd_same
theorem w_dget {td ty : TE} (h : td σ H fun x H1 => ty σ H1 fun y H2 => ∃ a v, x = .ref a ∧ DGet H2 a y (some v) ∧ Q v H2) : tDGet td ty σ H Q := h
end
end BkG
end
section
namespace BkG
open PySem PySem.Spec PyProof.Rows L2
/-! ### (v,) * k, up to 5,000 -/
def rRepTW (K : PySem.W.Frag) : R2 := fun x y H Q => ∃ (a : Addr) (k : Int) (v : V), x = .ref a ∧ y = .int k ∧ SqT K H a [v] ∧ 2 ≤ k ∧ k ≤ 5000 ∧
  ∀ p, H p = none → Q (.ref p) (upd H p (.tup (List.replicate k.toNat [v]).flatten))
theorem op_repTW {X : Cx} : OpR X (binaryOp .Mult) (rRepTW X.K) := by
  intro ps s σ H x y ux uy Q J rx ry hh
  obtain ⟨a, k, v, rfl, rfl, hT, k1, k2, q⟩ := hh
  cases rx
  obtain ⟨tk, rfl⟩ := ry
  obtain ⟨us, r, ⟨⟨cls, dd, dat, sl⟩, ho, hc, n, hd⟩, hs⟩ := J.tuple hT
  simp only at hc hd
  subst hc hd
  obtain ⟨u, rfl⟩ : ∃ u, us = [u] := by
    have h1 : us.length = 1 := r.length.symm
    rcases us with _ | ⟨u, _ | ⟨_, _⟩⟩
    · cases h1
    · exact ⟨u, rfl⟩
    · simp at h1
  have fl : (List.replicate k.toNat [u]).flatten.length = k.toNat := by rw [PyProof.Rows.lm_len_rep_flat]; simp
  have fl2 : (List.replicate k.toNat [v]).flatten.length = k.toNat := by rw [PyProof.Rows.lm_len_rep_flat]; simp
  have b0 : (decide (k < -(2 ^ 63)) || decide (k ≥ 2 ^ 63)) = false := by
    rw [decide_eq_false (show ¬ k < -(2 ^ 63) by omega), decide_eq_false (show ¬ k ≥ 2 ^ 63 by omega)]; rfl
  have b1 : ([u].toArray.isEmpty || k == 1) = false := by
    have e : (k == 1) = false := by simpa using (show ¬ k = 1 by omega)
    rw [e]; rfl
  have b2 : (decide (k ≤ 0) || [u].toArray.isEmpty) = false := by
    rw [decide_eq_false (show ¬ k ≤ 0 by omega)]; rfl
  have sz1 : (([u].toArray.size : Nat) : Int) * k = k := by simp
  have b4 : Builtin.Tuple.tupleTooMany ((([u].toArray.size : Nat) : Int) * k) = false := by
    rw [sz1]
    unfold Builtin.Tuple.tupleTooMany
    rw [sizeLine_eq]
    exact decide_eq_false (by omega)
  have b3 : ¬ (([u].toArray.size : Nat) : Int) * k > (2 ^ 63 - 1) / 8 := by rw [sz1]; omega
  have bs : (List.foldl (fun x1 x2 => x1 ++ x2) #[] (List.replicate k.toNat [u].toArray)).size ≤ sizeLine := by
    rw [size_rep, List.size_toArray, fl, sizeLine_eq]; omega
  have m1 := int_rmul_tuple k tk a [u].toArray n dd sl
  have m2 := tuple_mulW a [u].toArray n dd sl k tk b0 b1 b2 b3 b4 bs
  refine wpAny_binaryOp_repeat_ref (T := "tuple") (U := "int") (by decide) ⟨_, ho, rfl⟩ (fun s' => typeIs_int s' k tk) noFill_tuple_mul F.fills_int_mul F.slot_int_rmul repeat_tuple F.slot_int_index.lookup ?_
  refine call_meets F.slot_int_rmul (typeIs_int s k tk) F.entry_int_rmul (F.args_int_rmul_2 _ _) m1 ⟨ho, rfl, ⟨_, ho, rfl⟩, ?_⟩
  refine call_meets F.slot_tuple_mul ⟨_, ho, rfl⟩ F.entry_tuple_mul (F.args_tuple_mul_2 _ _) m2 ⟨ho, ?_⟩
  rw [size_rep]
  refine ⟨.ref s.heap.objs.size, _, J.laid (t' := s.toks) (o := .tup (List.replicate k.toNat [v]).flatten) (fun b ob e => Heap.get?_push_of_some _ e) (Nat.le_refl _) ?_, rfl, q _ (J.hok.fresh (Nat.le_refl _))⟩
  exact ⟨by rw [fl2, sizeLine_eq]; omega, _, r.rep k.toNat, IsTup.new _ _⟩
theorem rep_one {α : Type} (v : α) : ∀ n : Nat, (List.replicate n [v]).flatten = List.replicate n v
  | 0 => rfl
  | n + 1 => by rw [List.replicate_succ, List.flatten_cons, rep_one v n]; rfl
theorem r_repTW {K : PySem.W.Frag} {H : Hp} {Q : VK} {a : Addr} {k : Int} {v : V} (h : H a = some (.tup [v])) (k1 : 2 ≤ k) (k2 : k ≤ 5000) (q : ∀ p H2, H p = none → Ex H H2 → H2 p = some (.tup (List.replicate k.toNat v)) → Q (.ref p) H2) : rRepTW K (.ref a) (.int k) H Q :=
  ⟨a, k, v, rfl, rfl, .of h, k1, k2, fun p hp => by
    rw [rep_one]
    exact q p _ hp (Ex.new hp) upd_same⟩
end BkG
end
section
namespace BkG
open PySem PySem.Spec L2
/-! ### texts: walked sign by sign, indexed, split, joined -/
section
variable {K : PySem.W.Frag} {σ : L2.St} {H : Hp} {v : V} {to te : TE} {tt : TT} {g : TG} {vs : List Nat} {Q : VK}
def kLcS (g : TG) (tt : TT) (te : TE) (vs : List Nat) (σ : L2.St) (Q : VK) : VK := fun x H1 => ∃ z, x = .str z ∧ LcW (Its z) g tt te vs σ Q H1
theorem w_lcS {tl : TE} (h : tl σ H (kLcS g tt te vs σ Q)) : tLc (iStr tl) g tt te vs σ H Q := h
theorem k_lcS {z : Str} (q : LcW (Its z) g tt te vs σ Q H) : kLcS g tt te vs σ Q (.str z) H := ⟨z, rfl, q⟩
theorem lcS {z : Str} (P : Nat → List V → Addr → Hp → Prop) (h0 : ∀ D H2, H D = none → Ex H H2 → H2 D = some (.lst []) → P 0 [] D H2)
    (hs : ∀ (i : Nat) (c : Nat) acc D H', z.cps[i]? = some c → acc.length ≤ i → H D = none → H' D = some (.lst acc) → P i acc D H' → g (.str ⟨#[c]⟩) (wipe σ vs) H' (kTurn tt te vs P D i σ))
    (hd : ∀ acc D H', acc.length ≤ z.cps.size → H D = none → H' D = some (.lst acc) → P z.cps.size acc D H' → Q (.ref D) H') : LcW (Its z) g tt te vs σ Q H := by
  intro D hD
  refine lc_it walk_str (Pc P D) ⟨[], Nat.le_refl _, upd_same, h0 D _ hD (Ex.new hD) upd_same⟩ (fun i H' hi p => trivial) (fun i x H1 H' hi p y => ?_) (fun H' p => ?_)
  · obtain ⟨rfl, c, hc, rfl⟩ := y
    obtain ⟨acc, h1, h2, p⟩ := p
    exact hs i c acc D _ hc h1 hD h2 p
  · obtain ⟨acc, h1, h2, p⟩ := p
    exact hd acc D H' h1 hD h2 p
def kM1 (r : V → List V → Hp → VK → Prop) (te : TE) (σ : L2.St) (Q : VK) : VK := fun x H1 => (∃ a, x = .str a) ∧ te σ H1 fun y H2 => r x [y] H2 Q
theorem w_m1 {r : V → List V → Hp → VK → Prop} (h : to σ H (kM1 r te σ Q)) : tM1 r to te σ H Q := h
theorem k_m1 {r : V → List V → Hp → VK → Prop} {a : Str} (q : te σ H fun y H2 => r (.str a) [y] H2 Q) : kM1 r te σ Q (.str a) H := ⟨⟨a, rfl⟩, q⟩
def kM0 (r : V → List V → Hp → VK → Prop) (Q : VK) : VK := fun x H1 => (∃ a, x = .str a) ∧ r x [] H1 Q
theorem w_m0 {r : V → List V → Hp → VK → Prop} (h : to σ H (kM0 r Q)) : tM0 r to σ H Q := h
theorem k_m0 {r : V → List V → Hp → VK → Prop} {a : Str} (q : r (.str a) [] H Q) : kM0 r Q (.str a) H := ⟨⟨a, rfl⟩, q⟩
theorem r_ixS {z : Str} {i : Int} {c : Nat} (hl : z.length ≤ 100000) (e : atI z.cps.toList i = some c) (q : Q (.str ⟨#[c]⟩) H) : rIxS (.str z) (.int i) H Q := ⟨z, i, c, rfl, rfl, sz_of hl, e, q⟩
end
theorem r_newStrs {H : Hp} {Q : VK} {ys : List Str} (q : ∀ p H2, H p = none → Ex H H2 → H2 p = some (.lst (ys.map V.str)) → Q (.ref p) H2) : rNewStrs ys H Q := fun p hp => q p _ hp (Ex.new hp) upd_same
theorem isEmpty_map2' {α β : Type} {f : α → β} {xs : List α} : (xs.map f).isEmpty = xs.isEmpty := by cases xs <;> rfl
theorem isEmpty_filterC {f : Nat → Bool} : ∀ {l : List Nat}, (l.filter fun c => !f c).isEmpty = l.all f
  | [] => rfl
  | c :: l => by by_cases h : f c = true <;> simp [h, isEmpty_filterC (f := f) (l := l)]
theorem filter_takeC {f : Nat → Bool} {l : List Nat} {i c : Nat} (h : l[i]? = some c) : (l.take (i + 1)).filter f = (l.take i).filter f ++ (if f c = true then [c] else []) := by
  rw [take_more h, List.filter_append]; congr 1; by_cases e : f c = true <;> simp [e]
theorem dv_signs {H : Hp} {p : Addr} {l : List Nat} (h : H p = some (.lst (l.map fun c => V.str ⟨#[c]⟩))) : Dv [] H (.ref p) (.list (l.map fun c => PyData.str ⟨#[c]⟩)) := .lst h (by simp) (by simp) fun i v d h1 h2 => by
  obtain ⟨x, e1, rfl⟩ := map_some h1
  obtain ⟨y, e2, rfl⟩ := map_some h2
  rw [e1] at e2; cases e2; exact .str _
theorem nice_signs {n : Nat} {z : Str} {l : List Nat} (h : nice n (.str z) = true) (hl : l.length ≤ 90000) (s : ∀ c ∈ l, c ∈ z.cps.toList) : nice (n + 1) (.list (l.map fun c => PyData.str ⟨#[c]⟩)) = true := by
  refine nice.lst (by simpa using hl) fun d hd => ?_
  obtain ⟨c, hc, rfl⟩ := List.mem_map.mp hd
  refine nice.mk (okD_str _ _) ?_
  have h2 : PyData.strOk z = true := nice.lay h
  unfold PyData.strOk at h2
  rw [Array.all_eq_true_iff_forall_mem] at h2
  have h3 := h2 c (Array.mem_toList_iff.mp (s c hc))
  show PyData.strOk ⟨#[c]⟩ = true
  unfold PyData.strOk
  simpa using h3
/-! ### names -/
def wordsS : List Str := (["num", "name", "at", "add", "sub", "mul", "both", "any", "mix", "less", "same", "not", "div", "mod", "top", "many", "skip", "plus", "minus", "times", "turn", "swap", "push", "pop", "if", "then", "else", "end", "loop", "from", "do", "until", "local", "in", "call", "uncall", "row", "proc", "word", "array", "stack", "module", "needs", "width", "by", "with", "send", "take", "out", "net", "hands", "channels", "begin", "fork", "join", "jump", "land", "set", "exchange", "face", "code", "slots"] : List String).map Str.ofString
def wordsV : List V := wordsS.map V.str
def isLet (c : Nat) : Bool := decide (97 ≤ c ∧ c ≤ 122)
def isDig (c : Nat) : Bool := decide (48 ≤ c ∧ c ≤ 57)
def nameS (s : Str) : Bool := decide (1 ≤ s.length ∧ s.length ≤ 12) && !inV (.str s) wordsV && isLet (s.cps.toList.headD 0) && s.cps.toList.all fun c => isLet c || isDig c
def isNameD : PyData → Bool
  | .str s => nameS s
  | _ => false
theorem let_in {c : Nat} : decide (c ∈ (("abcdefghijklmnopqrstuvwxyz" : Str)).cps.toList) = isLet c := by
  have e : (("abcdefghijklmnopqrstuvwxyz" : Str)).cps.toList = [97, 98, 99, 100, 101, 102, 103, 104, 105, 106, 107, 108, 109, 110, 111, 112, 113, 114, 115, 116, 117, 118, 119, 120, 121, 122] := by decide +kernel
  rw [e]
  unfold isLet
  refine decide_eq_decide.mpr ?_
  simp only [List.mem_cons, List.not_mem_nil, or_false]
  omega
theorem dig_in {c : Nat} : decide (c ∈ (("0123456789" : Str)).cps.toList) = isDig c := by
  have e : (("0123456789" : Str)).cps.toList = [48, 49, 50, 51, 52, 53, 54, 55, 56, 57] := by decide +kernel
  rw [e]
  unfold isDig
  refine decide_eq_decide.mpr ?_
  simp only [List.mem_cons, List.not_mem_nil, or_false]
  omega
theorem sign_in {c : Nat} : decide (c ∈ (("abcdefghijklmnopqrstuvwxyz0123456789" : Str)).cps.toList) = (isLet c || isDig c) := by
  have e : (("abcdefghijklmnopqrstuvwxyz0123456789" : Str)).cps.toList = [97, 98, 99, 100, 101, 102, 103, 104, 105, 106, 107, 108, 109, 110, 111, 112, 113, 114, 115, 116, 117, 118, 119, 120, 121, 122, 48, 49, 50, 51, 52, 53, 54, 55, 56, 57] := by decide +kernel
  rw [e]
  unfold isLet isDig
  rw [← Bool.decide_or]
  refine decide_eq_decide.mpr ?_
  simp only [List.mem_cons, List.not_mem_nil, or_false]
  omega
def shortS (d : PyData) : Prop := ∀ s, d = .str s → s.length ≤ 1000
def spName : Sp := fun vs H Q _ => ∃ M v d, vs = [v] ∧ Dv M H v d ∧ shortS d ∧ nice 63 d = true ∧ ∀ H', Ex H H' → Q (.bl (isNameD d)) H'
def spNameX : Sp := fun vs H Q _ => ∃ M v d, vs = [v] ∧ Dv M H v d ∧ shortS d ∧ ∀ H', Ex H H' → Q (.bl (isNameD d)) H'
theorem headD_of {l : List Nat} {c : Nat} (h : l[0]? = some c) : l.headD 0 = c := by cases l <;> simp at h ⊢; exact h
theorem len_list (s : Str) : s.cps.toList.length = s.length := by simp [Str.length]
end BkG
end
section
namespace BkG
open PySem PySem.Spec L2
/-! ### data with short texts -/
mutual
def shortD : PyData → Bool
  | .str s => decide (s.length ≤ 1000)
  | .list xs => decide (xs.length ≤ 1000) && shortAll xs
  | .tuple xs => decide (xs.length ≤ 1000) && shortAll xs
  | _ => true
def shortAll : List PyData → Bool
  | [] => true
  | d :: ds => shortD d && shortAll ds
end
theorem shortAll_iff : ∀ {ds : List PyData}, shortAll ds = true ↔ ∀ d ∈ ds, shortD d = true
  | [] => by simp [shortAll]
  | d :: ds => by rw [shortAll, Bool.and_eq_true, shortAll_iff (ds := ds)]; simp
def fine (n : Nat) (d : PyData) : Bool := nice n d && shortD d
theorem fine.nice {n : Nat} {d : PyData} (h : fine n d = true) : nice n d = true := by unfold fine at h; rw [Bool.and_eq_true] at h; exact h.1
theorem fine.short {n : Nat} {d : PyData} (h : fine n d = true) : shortD d = true := by unfold fine at h; rw [Bool.and_eq_true] at h; exact h.2
theorem fine.mk {n : Nat} {d : PyData} (h1 : BkG.nice n d = true) (h2 : shortD d = true) : fine n d = true := by unfold fine; rw [h1, h2]; rfl
theorem fine.mono {n m : Nat} {d : PyData} (h : fine n d = true) (l : n ≤ m) : fine m d = true := fine.mk (nice.mono (fine.nice h) l) (fine.short h)
theorem fine.shortS {n : Nat} {d : PyData} (h : fine n d = true) : shortS d := fun s e => by
  subst e
  have := fine.short h
  simpa [shortD] using this
theorem fine.tup_in {n : Nat} {ds : List PyData} {d : PyData} (h : fine (n + 1) (.tuple ds) = true) (hd : d ∈ ds) : fine n d = true :=
  fine.mk (nice.tup_in (fine.nice h) hd) (shortAll_iff.mp (by have := fine.short h; rw [shortD, Bool.and_eq_true] at this; exact this.2) d hd)
theorem fine.tup {n : Nat} {ds : List PyData} (l : ds.length ≤ 1000) (h : ∀ d ∈ ds, fine n d = true) : fine (n + 1) (.tuple ds) = true :=
  fine.mk (nice.tup (by omega) fun d hd => fine.nice (h d hd)) (by rw [shortD, decide_eq_true l, Bool.true_and]; exact shortAll_iff.mpr fun d hd => fine.short (h d hd))
theorem fine.lst {n : Nat} {ds : List PyData} (l : ds.length ≤ 1000) (h : ∀ d ∈ ds, fine n d = true) : fine (n + 1) (.list ds) = true :=
  fine.mk (nice.lst (by omega) fun d hd => fine.nice (h d hd)) (by rw [shortD, decide_eq_true l, Bool.true_and]; exact shortAll_iff.mpr fun d hd => fine.short (h d hd))
theorem fine.len {n : Nat} {ds : List PyData} (h : fine n (.tuple ds) = true) : ds.length ≤ 1000 := by
  have := fine.short h
  rw [shortD, Bool.and_eq_true, decide_eq_true_eq] at this
  exact this.1
theorem fine.lst_len {n : Nat} {ds : List PyData} (h : fine n (.list ds) = true) : ds.length ≤ 1000 := by
  have := fine.short h
  rw [shortD, Bool.and_eq_true, decide_eq_true_eq] at this
  exact this.1
theorem shaped_lst {ds : List PyData} (h : ∀ d ∈ ds, fine 63 d = true) : SeqAt.shaped (.list ds) = true := by
  unfold SeqAt.shaped
  have h1 : PyData.canLay0 (.list ds) = true := layAll_iff.mpr fun d hd => nice.lay (fine.nice (h d hd))
  have h2 : (PyData.list ds).depth ≤ 64 := Nat.succ_le_succ (depthAll_le fun d hd => depth_okD (nice.ok (fine.nice (h d hd))))
  rw [h1, decide_eq_true h2]; rfl
theorem fine.pos {n : Nat} {ds : List PyData} (h : fine n (.tuple ds) = true) : ∃ m, n = m + 1 := nice.pos (fine.nice h)
/-! ### expressions -/
def pairS : List Str := (["add", "sub", "mul", "both", "any", "mix", "less", "same", "div", "mod"] : List String).map Str.ofString
def pairsP : List V := pairS.map V.str
def inP (w : Str) : Bool := inV (.str w) pairsP
def natI : PyData → Bool
  | .int n => decide (0 ≤ n)
  | _ => false
def ntm (w : Str) : Bool := inV (.str w) [.str "name", .str "top", .str "many"]
mutual
def expD : PyData → Option Nat
  | .tuple ds => expT ds
  | _ => none
def expT : List PyData → Option Nat
  | .str w :: a :: r =>
    if w = "num" then (if r.isEmpty && natI a then some 1 else none)
    else if ntm w then (if r.isEmpty && isNameD a then some 1 else none)
    else if w = "at" then (if decide (r.length = 1) && isNameD a then (expAll r).map (1 + ·) else none)
    else if w = "not" then (if r.isEmpty then (expD a).map (1 + ·) else none)
    else if inP w && decide (r.length = 1) then (match expD a, expAll r with | some x, some y => some (1 + (x + y)) | _, _ => none)
    else none
  | _ => none
def expAll : List PyData → Option Nat
  | [] => some 0
  | d :: ds => match expD d, expAll ds with
    | some x, some y => some (x + y)
    | _, _ => none
end
/-- what stands in an expression, and whether it is right but for that -/
def innerD : PyData → List PyData × Bool
  | .tuple (.str w :: a :: r) =>
    if w = "num" then ([], r.isEmpty && natI a)
    else if ntm w then ([], r.isEmpty && isNameD a)
    else if w = "at" then (r, decide (r.length = 1) && isNameD a)
    else if w = "not" then (a :: r, r.isEmpty)
    else (a :: r, inP w && decide (r.length = 1))
  | _ => ([], false)
theorem exp_inner (d : PyData) : expD d = if (innerD d).2 = true then (expAll (innerD d).1).map (1 + ·) else none := by
  cases d with
  | tuple ds =>
    rcases ds with _ | ⟨h, _ | ⟨a, r⟩⟩
    · rfl
    · cases h <;> rfl
    · cases h with
      | str w =>
        show expT (.str w :: a :: r) = _
        rw [expT]
        unfold innerD
        simp only
        split
        · split <;> simp_all [expAll]
        · split
          · split <;> simp_all [expAll]
          · split
            · rfl
            · split
              · split
                · rename_i h
                  have hr : r = [] := by simpa using h
                  subst hr
                  simp [expAll]
                  cases expD a <;> rfl
                · simp_all
              · split
                · rename_i h
                  simp only [h, if_true]
                  rw [expAll]
                  cases expD a <;> cases expAll r <;> rfl
                · simp_all
      | _ => rfl
  | _ => rfl
def rightExp (d : PyData) : Bool := match expD d with
  | some c => decide (c ≤ 60)
  | none => false
/-! the worklist: what still waits, what was met -/
def sumE (ds : List PyData) : Option Nat := expAll ds
def leftE (ds : List PyData) (parts : Nat) : Bool := match expAll ds with
  | some c => decide (parts + c ≤ 60)
  | none => false
theorem expAll_append : ∀ (a b : List PyData), expAll (a ++ b) = match expAll a, expAll b with | some x, some y => some (x + y) | _, _ => none
  | [], b => by rw [List.nil_append, expAll]; cases expAll b <;> simp
  | d :: a, b => by
    rw [List.cons_append, expAll, expAll, expAll_append a b]
    cases expD d <;> cases expAll a <;> cases expAll b <;> simp [Nat.add_assoc]
theorem expAll_one (d : PyData) : expAll [d] = expD d := by rw [expAll, expAll]; cases expD d <;> simp
theorem exp_pos {d : PyData} {c : Nat} (h : expD d = some c) : 1 ≤ c := by
  rw [exp_inner] at h
  split at h
  · cases e : expAll (innerD d).1 with
    | none => rw [e] at h; cases h
    | some x =>
      rw [e] at h
      have hc : 1 + x = c := Option.some.inj h
      omega
  · cases h
theorem expAll_len : ∀ {ds : List PyData} {c : Nat}, expAll ds = some c → ds.length ≤ c
  | [], c, h => by cases h; exact Nat.le_refl 0
  | d :: ds, c, h => by
    rw [expAll] at h
    cases e1 : expD d with
    | none => rw [e1] at h; cases h
    | some x =>
      cases e2 : expAll ds with
      | none => rw [e1, e2] at h; cases h
      | some y =>
        rw [e1, e2] at h
        have hc : x + y = c := Option.some.inj h
        have := exp_pos e1
        have := expAll_len e2
        rw [List.length_cons]; omega
theorem leftE_nil {parts : Nat} (h : parts ≤ 60) : leftE [] parts = true := by simp [leftE, expAll, h]
theorem leftE_one (d : PyData) : leftE [d] 0 = rightExp d := by unfold leftE rightExp; rw [expAll_one]; cases expD d <;> simp
/-- what is at the end is not right -/
theorem leftE_wrong {ds : List PyData} {d : PyData} {parts : Nat} (h : (innerD d).2 = false) : leftE (ds ++ [d]) parts = false := by
  unfold leftE
  rw [expAll_append, expAll_one, exp_inner, h]
  cases expAll ds <;> simp
theorem leftE_many {ds : List PyData} {d : PyData} {parts : Nat} (h : parts + 1 + (innerD d).1.length > 60) : leftE (ds ++ [d]) parts = false := by
  unfold leftE
  rw [expAll_append, expAll_one, exp_inner]
  cases e1 : expAll ds with
  | none => rfl
  | some x =>
    by_cases h2 : (innerD d).2 = true
    · rw [if_pos h2]
      cases e2 : expAll (innerD d).1 with
      | none => rfl
      | some y =>
        have := expAll_len e2
        show decide (parts + (x + (1 + y)) ≤ 60) = false
        exact decide_eq_false (by omega)
    · rw [if_neg h2]
theorem leftE_step {ds : List PyData} {d : PyData} {parts : Nat} (h : (innerD d).2 = true) : leftE (ds ++ [d]) parts = leftE (ds ++ (innerD d).1) (parts + 1) := by
  unfold leftE
  rw [expAll_append, expAll_append, expAll_one, exp_inner, if_pos h]
  cases expAll ds with
  | none => rfl
  | some x =>
    cases expAll (innerD d).1 with
    | none => rfl
    | some y =>
      simp only [Option.map_some]
      refine decide_eq_decide.mpr ?_
      omega
def isPlace : PyData → Bool
  | .tuple (.str w :: a :: r) => inV (.str w) [.str "name", .str "at"] && rightExp (.tuple (.str w :: a :: r))
  | _ => false
end BkG
end
section
namespace BkG
open PySem PySem.Spec L2
/-! ### slices and sums of tuples -/
section
variable {K : PySem.W.Frag} {H : Hp} {Q : VK} {a b : Addr} {xs ys : List V}
theorem r_slTfrom {k : Nat} (h : H a = some (.tup xs)) (k0 : 0 < k) (k1 : k ≤ xs.length) (q : ∀ p H2, Ex H H2 → H2 p = some (.tup (xs.drop k)) → Q (.ref p) H2) : rSlA K (.ref a) (some (k : Int)) none H Q := by
  refine ⟨a, xs, rfl, .of h, fun ⟨h1, _⟩ => ?_, fun _ p hp => ?_⟩
  · rw [HT.sIx_nat] at h1
    omega
  · refine q p _ (Ex.new hp) ?_
    rw [upd_same, cut_from k1]
theorem r_slT (h : H a = some (.tup xs)) {lo hi : Option Int} (q : ∀ p H2, Ex H H2 → H2 p = some (.tup (cutV xs lo hi)) → Q (.ref p) H2) : rSlA K (.ref a) lo hi H Q := by
  refine ⟨a, xs, rfl, .of h, fun ⟨h1, h2⟩ => ?_, fun _ p hp => q p _ (Ex.new hp) upd_same⟩
  refine q a H (fun _ _ h => h) ?_
  rw [h]
  congr 2
  unfold cutV
  rw [h1, h2, List.drop_zero, Nat.sub_zero, List.take_length]
theorem r_catT (ha : H a = some (.tup xs)) (hb : H b = some (.tup ys)) (hz : xs.length + ys.length ≤ 90000) (q : ∀ p H2, Ex H H2 → H2 p = some (.tup (xs ++ ys)) → Q (.ref p) H2) : rCatA K (.ref a) (.ref b) H Q := by
  refine ⟨a, b, xs, ys, rfl, rfl, .of ha, .of hb, sz_of (by omega), fun e => ?_, fun e e2 => ?_, fun _ _ p hp => q p _ (Ex.new hp) upd_same⟩
  · subst e
    exact q b H (fun _ _ h => h) hb
  · subst e2
    exact q a H (fun _ _ h => h) (by rw [ha, List.append_nil])
end
theorem r_extend {H : Hp} {Q : VK} {l b : Addr} {xs zs : List V} (h : H l = some (.lst xs)) (h2 : H b = some (.lst zs)) (hz : xs.length + zs.length ≤ 1000000) (q : ∀ H2, Kp [l] H H2 → H2 l = some (.lst (xs ++ zs)) → Q .non H2) : rExtend (.ref l) [.ref b] H Q :=
  ⟨l, b, xs, zs, rfl, rfl, h, h2, (by rw [sizeLine_eq]; omega), q _ (fun a o ha n => by rw [upd_ne (by simpa using n)]; exact ha) upd_same⟩
/-- what a list, a tuple holds, against data -/
def Rel (M : List Addr) (H : Hp) (xs : List V) (ds : List PyData) : Prop := xs.length = ds.length ∧ ∀ (i : Nat) (v : V) (d : PyData), xs[i]? = some v → ds[i]? = some d → Dv M H v d
theorem Rel.ex {M : List Addr} {H H' : Hp} {xs : List V} {ds : List PyData} (r : Rel M H xs ds) (e : Ex H H') : Rel M H' xs ds := ⟨r.1, fun i v d h1 h2 => (r.2 i v d h1 h2).ex e⟩
theorem Rel.keep {M : List Addr} {H H' : Hp} {xs : List V} {ds : List PyData} (r : Rel M H xs ds) (k : Kd M H H') : Rel M H' xs ds := ⟨r.1, fun i v d h1 h2 => (r.2 i v d h1 h2).keep k⟩
theorem Rel.tup {M : List Addr} {H : Hp} {xs : List V} {ds : List PyData} {p : Addr} (r : Rel M H xs ds) (h : H p = some (.tup xs)) : Dv M H (.ref p) (.tuple ds) := .tup h r.1 r.2
theorem Rel.lst {M : List Addr} {H : Hp} {xs : List V} {ds : List PyData} {p : Addr} (r : Rel M H xs ds) (h : H p = some (.lst xs)) (n : p ∉ M) : Dv M H (.ref p) (.list ds) := .lst h n r.1 r.2
theorem Rel.nil {M : List Addr} {H : Hp} : Rel M H [] [] := ⟨rfl, fun i v d h => by cases h⟩
theorem Rel.of_tup {M : List Addr} {H : Hp} {v : V} {ds : List PyData} (h : Dv M H v (.tuple ds)) : ∃ a xs, v = .ref a ∧ H a = some (.tup xs) ∧ Rel M H xs ds := by
  obtain ⟨a, xs, e, ha, hl, ht⟩ := h.tup_inv
  exact ⟨a, xs, e, ha, hl, ht⟩
theorem Rel.drop {M : List Addr} {H : Hp} {xs : List V} {ds : List PyData} (r : Rel M H xs ds) (k : Nat) : Rel M H (xs.drop k) (ds.drop k) :=
  ⟨by rw [List.length_drop, List.length_drop, r.1], fun i v d h1 h2 => by rw [List.getElem?_drop] at h1 h2; exact r.2 _ v d h1 h2⟩
theorem Rel.take {M : List Addr} {H : Hp} {xs : List V} {ds : List PyData} (r : Rel M H xs ds) (k : Nat) : Rel M H (xs.take k) (ds.take k) :=
  ⟨by rw [List.length_take, List.length_take, r.1], fun i v d h1 h2 => by
    have hi := (List.getElem?_eq_some_iff.mp h1).1
    rw [List.length_take] at hi
    rw [List.getElem?_take_of_lt (by omega)] at h1 h2
    exact r.2 _ v d h1 h2⟩
theorem Rel.append {M : List Addr} {H : Hp} {xs ys : List V} {ds es : List PyData} (r : Rel M H xs ds) (s : Rel M H ys es) : Rel M H (xs ++ ys) (ds ++ es) :=
  ⟨by rw [List.length_append, List.length_append, r.1, s.1], fun i v d h1 h2 => by
    have hl := r.1
    by_cases hi : i < xs.length
    · rw [List.getElem?_append_left hi] at h1
      rw [List.getElem?_append_left (by omega)] at h2
      exact r.2 _ v d h1 h2
    · rw [List.getElem?_append_right (by omega)] at h1
      rw [List.getElem?_append_right (by omega)] at h2
      rw [← hl] at h2
      exact s.2 _ v d h1 h2⟩
theorem Rel.one {M : List Addr} {H : Hp} {v : V} {d : PyData} (h : Dv M H v d) : Rel M H [v] [d] := ⟨rfl, fun i v' d' h1 h2 => by
  rcases i with _ | i
  · cases h1; cases h2; exact h
  · cases h1⟩
theorem Rel.cons {M : List Addr} {H : Hp} {v : V} {d : PyData} {xs : List V} {ds : List PyData} (h : Dv M H v d) (r : Rel M H xs ds) : Rel M H (v :: xs) (d :: ds) := Rel.append (Rel.one h) r
theorem Rel.head {M : List Addr} {H : Hp} {xs : List V} {d : PyData} {ds : List PyData} (r : Rel M H xs (d :: ds)) : ∃ v ys, xs = v :: ys ∧ Dv M H v d ∧ Rel M H ys ds := by
  rcases xs with _ | ⟨v, ys⟩
  · have := r.1; simp at this
  · refine ⟨v, ys, rfl, r.2 0 v d rfl rfl, by have := r.1; simpa using this, fun i v' d' h1 h2 => r.2 (i + 1) v' d' (by simpa using h1) (by simpa using h2)⟩
theorem Rel.none {M : List Addr} {H : Hp} {xs : List V} (r : Rel M H xs []) : xs = [] := List.length_eq_zero_iff.mp r.1
theorem Rel.add {M : List Addr} {H : Hp} {S : Addr} {xs : List V} {ds : List PyData} (r : Rel M H xs ds) (hS : H S = Option.none) (f : ∀ {v d}, Dv M H v d → Dv (S :: M) H v d) : Rel (S :: M) H xs ds := ⟨r.1, fun i v d h1 h2 => f (r.2 i v d h1 h2)⟩
theorem Dv.add {M : List Addr} {H : Hp} {S : Addr} {v : V} {d : PyData} (h : Dv M H v d) (hS : H S = none) : Dv (S :: M) H v d := by
  induction h with
  | non => exact .non
  | bl b => exact .bl b
  | int i => exact .int i
  | str x => exact .str x
  | lst h n l t ih =>
    refine .lst h (fun z => ?_) l ih
    rcases List.mem_cons.mp z with z | z
    · rw [z, hS] at h; cases h
    · exact n z
  | tup h l t ih => exact .tup h l ih
theorem inner_sub {d e : PyData} (h : e ∈ (innerD d).1) : ∃ ds, d = .tuple ds ∧ e ∈ ds := by
  cases d with
  | tuple ds =>
    refine ⟨ds, rfl, ?_⟩
    rcases ds with _ | ⟨x, _ | ⟨a, r⟩⟩
    · cases h
    · cases x <;> cases h
    · cases x with
      | str w =>
        unfold innerD at h
        simp only at h
        split at h
        · cases h
        · split at h
          · cases h
          · split at h
            · exact List.mem_cons_of_mem _ (List.mem_cons_of_mem _ h)
            · split at h
              · exact List.mem_cons_of_mem _ h
              · exact List.mem_cons_of_mem _ h
      | _ => cases h
  | _ => cases h
theorem inner_len {ds : List PyData} : (innerD (.tuple ds)).1.length ≤ ds.length := by
  rcases ds with _ | ⟨x, _ | ⟨a, r⟩⟩
  · exact Nat.le_refl 0
  · cases x <;> exact Nat.zero_le _
  · cases x with
    | str w =>
      unfold innerD
      simp only
      split
      · exact Nat.zero_le _
      · split
        · exact Nat.zero_le _
        · split
          · simp; omega
          · split <;> simp
    | _ => exact Nat.zero_le _
theorem inner_fine {n : Nat} {d e : PyData} (hf : fine n d = true) (h : e ∈ (innerD d).1) : fine n e = true := by
  obtain ⟨ds, rfl, hm⟩ := inner_sub h
  obtain ⟨m, rfl⟩ := fine.pos hf
  exact fine.mono (fine.tup_in hf hm) (Nat.le_succ m)
theorem list_last {α : Type} {xs : List α} (h : xs ≠ []) : ∃ ys x, xs = ys ++ [x] := ⟨xs.dropLast, xs.getLast h, (List.dropLast_concat_getLast h).symm⟩
theorem Rel.last {M : List Addr} {H : Hp} {xs : List V} {ds : List PyData} (r : Rel M H xs ds) (h : xs ≠ []) : ∃ ys x es e, xs = ys ++ [x] ∧ ds = es ++ [e] ∧ Dv M H x e ∧ Rel M H ys es := by
  have hd : ds ≠ [] := fun z => h (List.length_eq_zero_iff.mp (by rw [r.1, z]; rfl))
  obtain ⟨ys, x, rfl⟩ := list_last h
  obtain ⟨es, e, rfl⟩ := list_last hd
  have hl : ys.length = es.length := by have := r.1; simpa using this
  refine ⟨ys, x, es, e, rfl, rfl, r.2 ys.length x e (by simp) (by rw [hl]; simp), hl, fun i v d h1 h2 => ?_⟩
  have hi := (List.getElem?_eq_some_iff.mp h1).1
  exact r.2 i v d (by rw [List.getElem?_append_left hi]; exact h1) (by rw [List.getElem?_append_left (by omega)]; exact h2)
def spInner : Sp := fun vs H Q _ => ∃ (M : List Addr) (v : V) (d : PyData), vs = [v] ∧ Dv M H v d ∧ fine 64 d = true ∧
  ∀ (p q : Addr) (xs : List V) (H' : Hp), Ex H H' → H' p = some (.tup [.ref q, .bl (innerD d).2]) → H' q = some (.tup xs) → Rel M H' xs (innerD d).1 → Q (.ref p) H'
def spIsExp : Sp := fun vs H Q _ => ∃ (M : List Addr) (v : V) (d : PyData), vs = [v] ∧ Dv M H v d ∧ fine 63 d = true ∧ ∀ H', Ex H H' → Q (.bl (rightExp d)) H'
def spIsPlace : Sp := fun vs H Q _ => ∃ (M : List Addr) (v : V) (d : PyData), vs = [v] ∧ Dv M H v d ∧ fine 63 d = true ∧ ∀ H', Ex H H' → Q (.bl (isPlace d)) H'
end BkG
end
section
namespace BkG
open PySem PySem.Spec PyProof.Rows L2
/-! ### any data in a list, a tuple of texts -/
def inD (d : PyData) (ss : List Str) : Bool := ss.any fun s => strIs d s
def rInD (K : PySem.W.Frag) (neg : Bool) : R2 := fun x y H Q => ∃ (p : Addr) (d : PyData) (ss : List Str), y = .ref p ∧ (SqL K H p (ss.map V.str) ∨ SqT K H p (ss.map V.str)) ∧ Dp K H x d ∧ PyData.canLay0 d = true ∧ ss.all PyData.strOk = true ∧ Q (.bl (if neg then !inD d ss else inD d ss)) H
def eqS (d : PyData) (u : Value) : Bool := match u with
  | .str s _ => strIs d s
  | _ => false
theorem eqv_strL {d : PyData} {t : Str} : PyData.eqv (.str t) d = strIs d t := by
  cases d <;> simp [PyData.eqv, strIs]
  exact Bool.beq_comm
theorem any_eqS {d : PyData} : ∀ {ss : List Str} {us : List Value}, Vals (ss.map V.str) us → us.any (eqS d) = inD d ss
  | [], _, r => by cases r; rfl
  | s :: ss, _, r => by
    cases r with
    | cons r t =>
      obtain ⟨k, rfl⟩ := r
      rw [List.any_cons, any_eqS t]
      rfl
theorem mem_eqS {A : Around} {s : Shared} {d : PyData} {v : Value} {as : List Addr} (rd : Reads s.heap v d as) (ld : PyData.canLay0 d = true) (hu : A.units < cLine) : ∀ {ss : List Str} {us : List Value}, Vals (ss.map V.str) us → ss.all PyData.strOk = true → ∀ u ∈ us, SeqAt.EqAt A s u v (eqS d u)
  | [], _, r, _ => fun u hu => by cases r; cases hu
  | x :: ss, _, r, f => fun u' hm => by
    cases r with
    | cons r t =>
      obtain ⟨k, rfl⟩ := r
      rw [List.all_cons, Bool.and_eq_true] at f
      rcases List.mem_cons.mp hm with rfl | hm
      · have h := SeqAt.eqAt_reads (.str x) d A s (.str x k) v _ _ (Reads.str x k) rd f.1 ld (by
          have : min (PyData.depth (.str x)) d.depth = 0 := Nat.zero_min _
          omega)
        rw [eqv_strL] at h
        exact h
      · exact mem_eqS rd ld hu t f.2 u' hm
theorem op_inD {X : Cx} (hu : X.A.units + 1 < cLine) : OpR X (compareOp .In) (rInD X.K false) := by
  intro ps s σ H x y ux uy Q J rx ry hh
  obtain ⟨p, d, ss, rfl, hq, hd, ld, fs, q⟩ := hh
  obtain ⟨as, rd⟩ := Dp.reads J d x ux hd rx
  cases ry
  rcases hq with hq | hq
  · obtain ⟨its, r, pl, hz⟩ := J.list hq
    refine SeqAt.in_listAt (eqS d) pl.isList (fun w hw => mem_eqS rd ld (show X.A.in1.units < cLine from hu) r fs w (by simpa using hw)) ⟨.bl _, H, J, rfl, ?_⟩
    rw [show its.toArray.any (eqS d) = its.any (eqS d) by simp, any_eqS r]
    exact q
  · obtain ⟨its, r, pl, hz⟩ := J.tuple hq
    refine SeqAt.in_tupleAt (eqS d) pl (fun w hw => mem_eqS rd ld (show X.A.in1.units < cLine from hu) r fs w (by simpa using hw)) ⟨.bl _, H, J, rfl, ?_⟩
    rw [show its.toArray.any (eqS d) = its.any (eqS d) by simp, any_eqS r]
    exact q
theorem op_notInD {X : Cx} (hu : X.A.units + 1 < cLine) : OpR X (compareOp .NotIn) (rInD X.K true) := by
  intro ps s σ H x y ux uy Q J rx ry hh
  obtain ⟨p, d, ss, rfl, hq, hd, ld, fs, q⟩ := hh
  obtain ⟨as, rd⟩ := Dp.reads J d x ux hd rx
  cases ry
  rcases hq with hq | hq
  · obtain ⟨its, r, pl, hz⟩ := J.list hq
    refine SeqAt.notIn_listAt (eqS d) pl.isList (fun w hw => mem_eqS rd ld (show X.A.in1.units < cLine from hu) r fs w (by simpa using hw)) ⟨.bl _, H, J, rfl, ?_⟩
    rw [show its.toArray.any (eqS d) = its.any (eqS d) by simp, any_eqS r]
    exact q
  · obtain ⟨its, r, pl, hz⟩ := J.tuple hq
    refine SeqAt.notIn_tupleAt (eqS d) pl (fun w hw => mem_eqS rd ld (show X.A.in1.units < cLine from hu) r fs w (by simpa using hw)) ⟨.bl _, H, J, rfl, ?_⟩
    rw [show its.toArray.any (eqS d) = its.any (eqS d) by simp, any_eqS r]
    exact q
theorem r_inD {K : PySem.W.Frag} {H : Hp} {Q : VK} {x : V} {p : Addr} {d : PyData} {M : List Addr} {n : Nat} (ss : List Str) {xs : List V} (h : SqL K H p xs ∨ SqT K H p xs) (e : xs = ss.map V.str) (hx : Dv M H x d) (hn : nice n d = true) (hs : ss.all PyData.strOk = true) (q : Q (.bl (inD d ss)) H) : rInD K false x (.ref p) H Q :=
  ⟨p, d, ss, rfl, by rw [e] at h; exact h, hx.dp, nice.lay hn, hs, q⟩
theorem r_notInD {K : PySem.W.Frag} {H : Hp} {Q : VK} {x : V} {p : Addr} {d : PyData} {M : List Addr} {n : Nat} (ss : List Str) {xs : List V} (h : SqL K H p xs ∨ SqT K H p xs) (e : xs = ss.map V.str) (hx : Dv M H x d) (hn : nice n d = true) (hs : ss.all PyData.strOk = true) (q : Q (.bl (!inD d ss)) H) : rInD K true x (.ref p) H Q :=
  ⟨p, d, ss, rfl, by rw [e] at h; exact h, hx.dp, nice.lay hn, hs, q⟩
end BkG
end
section
namespace BkG
open PySem PySem.Spec L2 TL
/-! ### names with a point -/
theorem spl_part {S : List Nat} : ∀ (l : List Nat) (k : Nat) (acc : List Nat), ∀ p ∈ spl S k acc l, p.length ≤ acc.length + l.length ∧ ∀ c ∈ p, c ∈ acc ∨ c ∈ l
  | [], k, acc, p, h => by
    rw [spl_nil] at h
    rw [List.mem_singleton.mp h]
    exact ⟨Nat.le_refl _, fun c hc => .inl hc⟩
  | c :: r, 0, acc, p, h => by
    by_cases hp : pre S (c :: r) = true
    · rw [spl_hit hp] at h
      rcases List.mem_cons.mp h with rfl | h
      · exact ⟨by omega, fun c hc => .inl hc⟩
      · obtain ⟨h1, h2⟩ := spl_part r _ _ p h
        refine ⟨by rw [List.length_cons]; simp at h1; omega, fun c' hc => ?_⟩
        rcases h2 c' hc with h | h
        · cases h
        · exact .inr (List.mem_cons_of_mem _ h)
    · rw [spl_miss (by simpa using hp)] at h
      obtain ⟨h1, h2⟩ := spl_part r _ _ p h
      refine ⟨by rw [List.length_append, List.length_singleton] at h1; rw [List.length_cons]; omega, fun c' hc => ?_⟩
      rcases h2 c' hc with h | h
      · rcases List.mem_append.mp h with h | h
        · exact .inl h
        · rw [List.mem_singleton.mp h]; exact .inr List.mem_cons_self
      · exact .inr (List.mem_cons_of_mem _ h)
  | c :: r, k + 1, acc, p, h => by
    have h' : p ∈ spl S k acc r := h
    obtain ⟨h1, h2⟩ := spl_part r k acc p h'
    refine ⟨by rw [List.length_cons]; omega, fun c' hc => ?_⟩
    rcases h2 c' hc with h | h
    · exact .inl h
    · exact .inr (List.mem_cons_of_mem _ h)
theorem spl_ne {S : List Nat} : ∀ (l : List Nat) (k : Nat) (acc : List Nat), spl S k acc l ≠ []
  | [], k, acc => by rw [spl_nil]; simp
  | c :: r, 0, acc => by
    by_cases hp : pre S (c :: r) = true
    · rw [spl_hit hp]; simp
    · rw [spl_miss (by simpa using hp)]; exact spl_ne r _ _
  | c :: r, k + 1, acc => spl_ne r k acc
theorem spl_count {S : List Nat} : ∀ (l : List Nat) (k : Nat) (acc : List Nat), (spl S k acc l).length ≤ l.length + 1
  | [], k, acc => by rw [spl_nil]; exact Nat.le_refl 1
  | c :: r, 0, acc => by
    by_cases hp : pre S (c :: r) = true
    · rw [spl_hit hp, List.length_cons, List.length_cons]
      have := spl_count (S := S) r (S.length - 1) []
      omega
    · rw [spl_miss (by simpa using hp), List.length_cons]
      have := spl_count (S := S) r 0 (acc ++ [c])
      omega
  | c :: r, k + 1, acc => by
    have := spl_count (S := S) r k acc
    have e : spl S (k + 1) acc (c :: r) = spl S k acc r := rfl
    rw [e, List.length_cons]; omega
def ptS : Str := "."
theorem split_eq (s : Str) : (Txt.split s ptS).map tl = spl (tl ptS) 0 [] (tl s) := split_spl s ptS (by decide +kernel) (kind_ok (by decide +kernel))
theorem split_ne (s : Str) : Txt.split s ptS ≠ [] := fun h => by
  have e := split_eq s
  rw [h] at e
  exact spl_ne _ _ _ e.symm
theorem split_count (s : Str) : (Txt.split s ptS).length ≤ s.length + 1 := by
  have e := congrArg List.length (split_eq s)
  rw [List.length_map] at e
  rw [e, len_tl]
  exact spl_count _ _ _
theorem split_len {s p : Str} (h : p ∈ Txt.split s ptS) : p.length ≤ s.length := by
  have e := split_eq s
  have hm : tl p ∈ (Txt.split s ptS).map tl := List.mem_map.mpr ⟨p, h, rfl⟩
  rw [e] at hm
  obtain ⟨h1, _⟩ := spl_part _ _ _ _ hm
  rw [len_tl, len_tl s]
  simpa using h1
theorem split_ok {s p : Str} (h : p ∈ Txt.split s ptS) (hs : PyData.strOk s = true) : PyData.strOk p = true := by
  have e := split_eq s
  have hm : tl p ∈ (Txt.split s ptS).map tl := List.mem_map.mpr ⟨p, h, rfl⟩
  rw [e] at hm
  obtain ⟨_, h2⟩ := spl_part _ _ _ _ hm
  unfold PyData.strOk at hs ⊢
  rw [Array.all_eq_true_iff_forall_mem] at hs ⊢
  intro c hc
  rcases h2 c (Array.mem_toList_iff.mpr hc) with h | h
  · cases h
  · exact hs c (Array.mem_toList_iff.mp h)
def isCalledD : PyData → Bool
  | .str s => decide ((Txt.split s ptS).length < 3) && (Txt.split s ptS).all nameS
  | _ => false
def areNamesD (most : Nat) : PyData → Bool
  | .tuple ds => decide (ds.length ≤ most) && ds.all isNameD
  | _ => false
def isPlaceD : PyData → Bool
  | .tuple (h :: a :: r) => inD h ["name", "at"] && rightExp (.tuple (h :: a :: r))
  | _ => false
def spPlace : Sp := fun vs H Q _ => ∃ (M : List Addr) (v : V) (d : PyData), vs = [v] ∧ Dv M H v d ∧ fine 63 d = true ∧ ∀ H', Ex H H' → Q (.bl (isPlaceD d)) H'
def spNames : Sp := fun vs H Q _ => ∃ (M : List Addr) (v : V) (d : PyData) (most : Nat), vs = [v, .int most] ∧ most ≤ 1000 ∧ Dv M H v d ∧ fine 63 d = true ∧ ∀ H', Ex H H' → Q (.bl (areNamesD most d)) H'
def spCalled : Sp := fun vs H Q _ => ∃ (M : List Addr) (v : V) (d : PyData), vs = [v] ∧ Dv M H v d ∧ fine 63 d = true ∧ ∀ H', Ex H H' → Q (.bl (isCalledD d)) H'
/-! ### statements -/
def wIn (w : Str) (ss : List Str) : Bool := inV (.str w) (ss.map V.str)
def plainR (w : Str) (as : List PyData) : Bool :=
  if w = "skip" then as.isEmpty
  else if wIn w ["plus", "minus", "mix"] then (match as with
    | [p, e] => isPlaceD p && rightExp e
    | _ => false)
  else if wIn w ["times", "turn"] then (match as with
    | [p, n] => isPlaceD p && isIntg n
    | _ => false)
  else if w = "swap" then (match as with
    | [p, q] => isPlaceD p && isPlaceD q
    | _ => false)
  else wIn w ["push", "pop", "send", "take"] && (match as with
    | [a, b] => isNameD a && isNameD b
    | _ => false)
def hereR (w : Str) (as : List PyData) : Bool :=
  if wIn w ["if", "loop"] then (match as with
    | [e, _, _, f] => rightExp e && rightExp f
    | _ => false)
  else if w = "local" then (match as with
    | [n, e, _, f] => isNameD n && rightExp e && rightExp f
    | _ => false)
  else if wIn w ["call", "uncall"] then (match as with
    | [c, ns] => isCalledD c && areNamesD 20 ns
    | _ => false)
  else if w = "row" then (match as with
    | [.tuple _] => true
    | _ => false)
  else plainR w as
def rightHere : PyData → Bool
  | .tuple (.str w :: as) => hereR w as
  | _ => false
def innersS : PyData → List PyData
  | .tuple (.str w :: as) =>
    if wIn w ["if", "loop"] then (as.drop 1).take 2
    else if w = "local" then (as.drop 2).take 1
    else if w = "row" then (match as with
      | .tuple ds :: _ => ds
      | _ => [])
    else []
  | _ => []
def comb : Option (Nat × Nat) → Option (Nat × Nat) → Option (Nat × Nat)
  | some (a, m), some (b, n) => some (a + b, max m n)
  | _, _ => none
def up : Option (Nat × Nat) → Option (Nat × Nat)
  | some (a, m) => some (1 + a, 1 + m)
  | none => none
mutual
def stD : PyData → Option (Nat × Nat)
  | .tuple ds => stT ds
  | _ => none
def stT : List PyData → Option (Nat × Nat)
  | .str w :: as => if hereR w as then up (stIn w as) else none
  | _ => none
def stIn (w : Str) : List PyData → Option (Nat × Nat)
  | [.tuple ds] => if w = "row" then stAll ds else some (0, 0)
  | [_, b, c, _] => if wIn w ["if", "loop"] then comb (stD b) (comb (stD c) (some (0, 0))) else if w = "local" then comb (stD c) (some (0, 0)) else some (0, 0)
  | _ => some (0, 0)
def stAll : List PyData → Option (Nat × Nat)
  | [] => some (0, 0)
  | d :: ds => comb (stD d) (stAll ds)
end
end BkG
end
section
namespace BkG
open PySem PySem.Spec L2 TL
/-! ### statements: the worklist -/
theorem comb_zero (x : Option (Nat × Nat)) : comb x (some (0, 0)) = x := by
  rcases x with _ | ⟨a, m⟩
  · rfl
  · simp [comb]
theorem row_inners {w : Str} (h : w = "row") (as : List PyData) : innersS (.tuple (.str w :: as)) = (match as with | .tuple ds :: _ => ds | _ => []) := by
  subst h
  have n1 : ¬ wIn "row" ["if", "loop"] = true := by decide +kernel
  have n2 : ¬ ("row" : Str) = "local" := by decide +kernel
  unfold innersS
  simp only [n1, n2, if_true, if_false, Bool.false_eq_true]
  all_goals (rcases as with _ | ⟨y, as⟩ <;> first | rfl | (cases y <;> rfl))
theorem hereR_if {w : Str} {as : List PyData} (h : wIn w ["if", "loop"] = true) (r : hereR w as = true) : ∃ a b c d, as = [a, b, c, d] := by
  unfold hereR at r
  rw [if_pos h] at r
  rcases as with _ | ⟨a, _ | ⟨b, _ | ⟨c, _ | ⟨d, _ | ⟨e, as⟩⟩⟩⟩⟩ <;> first | exact ⟨_, _, _, _, rfl⟩ | cases r
theorem hereR_local {w : Str} {as : List PyData} (h1 : ¬ wIn w ["if", "loop"] = true) (h : w = "local") (r : hereR w as = true) : ∃ a b c d, as = [a, b, c, d] := by
  unfold hereR at r
  rw [if_neg h1, if_pos h] at r
  rcases as with _ | ⟨a, _ | ⟨b, _ | ⟨c, _ | ⟨d, _ | ⟨e, as⟩⟩⟩⟩⟩ <;> first | exact ⟨_, _, _, _, rfl⟩ | cases r
theorem hereR_row {w : Str} {as : List PyData} (h : w = "row") (r : hereR w as = true) : ∃ ds, as = [.tuple ds] := by
  subst h
  have n1 : ¬ wIn "row" ["if", "loop"] = true := by decide +kernel
  have n2 : ¬ ("row" : Str) = "local" := by decide +kernel
  have n3 : ¬ wIn "row" ["call", "uncall"] = true := by decide +kernel
  unfold hereR at r
  rw [if_neg n1, if_neg n2, if_neg n3, if_pos rfl] at r
  rcases as with _ | ⟨a, _ | ⟨b, as⟩⟩
  · cases r
  · cases a <;> first | exact ⟨_, rfl⟩ | cases r
  · cases a <;> cases r
theorem stIn_other {w : Str} {as : List PyData} (h1 : ¬ wIn w ["if", "loop"] = true) (h2 : ¬ w = "local") (h3 : ¬ w = "row") : stIn w as = some (0, 0) := by
  rcases as with _ | ⟨a, _ | ⟨b, _ | ⟨c, _ | ⟨d, _ | ⟨e, as⟩⟩⟩⟩⟩
  · rfl
  · cases a <;> first | rfl | (rw [stIn, if_neg h3])
  · cases a <;> rfl
  · cases a <;> rfl
  · rw [stIn, if_neg h1, if_neg h2]
  · cases a <;> rfl
theorem st_inner (d : PyData) : stD d = if rightHere d = true then up (stAll (innersS d)) else none := by
  cases d with
  | tuple ds =>
    rcases ds with _ | ⟨x, as⟩
    · rfl
    · cases x with
      | str w =>
        show stT (.str w :: as) = if hereR w as = true then _ else none
        rw [stT]
        by_cases h : hereR w as = true
        · rw [if_pos h, if_pos h]
          congr 1
          by_cases h1 : wIn w ["if", "loop"] = true
          · obtain ⟨a, b, c, d, rfl⟩ := hereR_if h1 h
            rw [stIn, if_pos h1]
            unfold innersS
            simp only [h1, if_true]
            show _ = stAll [b, c]
            rw [stAll, stAll, stAll]
          · by_cases h2 : w = "local"
            · obtain ⟨a, b, c, d, rfl⟩ := hereR_local h1 h2 h
              rw [stIn, if_neg h1, if_pos h2]
              unfold innersS
              simp only [h1, h2, if_true, if_false]
              rw [h2] at h1
              simp only [h1, if_false]
              show _ = stAll [c]
              rw [stAll, stAll]
            · by_cases h3 : w = "row"
              · obtain ⟨ds, rfl⟩ := hereR_row h3 h
                rw [row_inners h3, stIn, if_pos h3]
              · rw [stIn_other h1 h2 h3]
                unfold innersS
                simp only [h1, h2, h3, if_false]
                rfl
        · rw [if_neg h, if_neg h]
      | _ => rfl
  | _ => rfl
theorem st_pos {d : PyData} {s m : Nat} (h : stD d = some (s, m)) : 1 ≤ s ∧ 1 ≤ m := by
  rw [st_inner] at h
  split at h
  · cases e : stAll (innersS d) with
    | none => rw [e] at h; cases h
    | some p =>
      obtain ⟨a, b⟩ := p
      rw [e] at h
      have h' : (1 + a, 1 + b) = (s, m) := Option.some.inj h
      injection h' with h1 h2
      omega
  · cases h
def wS : List (PyData × Nat) → Option Nat
  | [] => some 0
  | (d, k) :: ws => match stD d, wS ws with
    | some (s, m), some t => if k + m ≤ 21 then some (s + t) else none
    | _, _ => none
def leftS (ws : List (PyData × Nat)) (parts : Nat) : Bool := match wS ws with
  | some t => decide (parts + t ≤ 400)
  | none => false
def rightSt (d : PyData) : Bool := match stD d with
  | some (s, m) => decide (s ≤ 400) && decide (m ≤ 20)
  | none => false
theorem wS_append : ∀ (a b : List (PyData × Nat)), wS (a ++ b) = match wS a, wS b with | some x, some y => some (x + y) | _, _ => none
  | [], b => by rw [List.nil_append, wS]; cases wS b <;> simp
  | (d, k) :: a, b => by
    rw [List.cons_append, wS, wS, wS_append a b]
    rcases stD d with _ | ⟨s, m⟩
    · rfl
    · cases wS a with
      | none => rfl
      | some x =>
        cases wS b with
        | none => by_cases h : k + m ≤ 21 <;> simp [h]
        | some y => by_cases h : k + m ≤ 21 <;> simp [h, Nat.add_assoc]
theorem wS_one (d : PyData) (k : Nat) : wS [(d, k)] = match stD d with | some (s, m) => if k + m ≤ 21 then some s else none | none => none := by
  rw [wS, wS]
  rcases stD d with _ | ⟨s, m⟩ <;> simp
theorem wS_inner {j : Nat} (hj : j ≤ 21) : ∀ (ds : List PyData), wS (ds.map fun d => (d, j)) = match stAll ds with | some (s, m) => if j + m ≤ 21 then some s else none | none => none
  | [] => by simp [wS, stAll, hj]
  | d :: ds => by
    rw [List.map_cons, wS, stAll, wS_inner hj ds]
    rcases stD d with _ | ⟨s, m⟩
    · rfl
    · rcases stAll ds with _ | ⟨t, n⟩
      · rfl
      · simp only [comb]
        by_cases h2 : j + n ≤ 21
        · rw [if_pos h2]
          by_cases h1 : j + m ≤ 21
          · have : j + max m n ≤ 21 := by omega
            simp [h1, this]
          · have : ¬ j + max m n ≤ 21 := by omega
            simp [h1, this]
        · have : ¬ j + max m n ≤ 21 := by omega
          simp [h2, this]
theorem leftS_nil {parts : Nat} (h : parts ≤ 400) : leftS [] parts = true := by simp [leftS, wS, h]
theorem leftS_start (d : PyData) : leftS [(d, 1)] 0 = rightSt d := by
  unfold leftS rightSt
  rw [wS_one]
  rcases stD d with _ | ⟨s, m⟩
  · rfl
  · by_cases h : 1 + m ≤ 21
    · have : m ≤ 20 := by omega
      simp [h, this]
    · have : ¬ m ≤ 20 := by omega
      simp [h, this]
theorem leftS_wrong {ws : List (PyData × Nat)} {d : PyData} {k parts : Nat} (h : rightHere d = false) : leftS (ws ++ [(d, k)]) parts = false := by
  unfold leftS
  rw [wS_append, wS_one, st_inner, if_neg (by rw [h]; decide)]
  cases wS ws <;> rfl
theorem leftS_deep {ws : List (PyData × Nat)} {d : PyData} {k parts : Nat} (h : 20 < k) : leftS (ws ++ [(d, k)]) parts = false := by
  unfold leftS
  rw [wS_append, wS_one]
  rcases e : stD d with _ | ⟨s, m⟩
  · cases wS ws <;> rfl
  · have := (st_pos e).2
    have : ¬ k + m ≤ 21 := by omega
    simp only [this, if_false]
    cases wS ws <;> rfl
theorem leftS_many {ws : List (PyData × Nat)} {d : PyData} {k parts : Nat} (h : 400 < parts + 1) : leftS (ws ++ [(d, k)]) parts = false := by
  unfold leftS
  rw [wS_append, wS_one]
  rcases e : stD d with _ | ⟨s, m⟩
  · cases wS ws <;> rfl
  · have := (st_pos e).1
    cases wS ws with
    | none => rfl
    | some x =>
      by_cases h2 : k + m ≤ 21
      · simp only [h2, if_true]
        exact decide_eq_false (by omega)
      · simp only [h2, if_false]
theorem leftS_step {ws : List (PyData × Nat)} {d : PyData} {k parts : Nat} (h : rightHere d = true) (hk : k ≤ 20) : leftS (ws ++ [(d, k)]) parts = leftS (ws ++ (innersS d).map fun e => (e, k + 1)) (parts + 1) := by
  unfold leftS
  rw [wS_append, wS_append, wS_one, wS_inner (by omega), st_inner, if_pos h]
  cases wS ws with
  | none => rfl
  | some x =>
    rcases stAll (innersS d) with _ | ⟨t, n⟩
    · rfl
    · simp only [up]
      by_cases h2 : k + 1 + n ≤ 21
      · have h1 : k + (1 + n) ≤ 21 := by omega
        simp only [h1, h2, if_true]
        exact decide_eq_decide.mpr (by omega)
      · have h1 : ¬ k + (1 + n) ≤ 21 := by omega
        simp only [h1, h2, if_false]
theorem inners_sub {d e : PyData} (h : e ∈ innersS d) : (∃ ds, d = .tuple ds ∧ e ∈ ds) ∨ ∃ ds es, d = .tuple ds ∧ .tuple es ∈ ds ∧ e ∈ es := by
  cases d with
  | tuple ds =>
    rcases ds with _ | ⟨x, as⟩
    · cases h
    · cases x with
      | str w =>
        unfold innersS at h
        simp only at h
        split at h
        · exact .inl ⟨_, rfl, List.mem_cons_of_mem _ (List.mem_of_mem_drop (List.mem_of_mem_take h))⟩
        · split at h
          · exact .inl ⟨_, rfl, List.mem_cons_of_mem _ (List.mem_of_mem_drop (List.mem_of_mem_take h))⟩
          · split at h
            · rcases as with _ | ⟨y, as⟩
              · cases h
              · cases y with
                | tuple es => exact .inr ⟨_, es, rfl, by simp, h⟩
                | _ => cases h
            · cases h
      | _ => cases h
  | _ => cases h
theorem inners_fine {n : Nat} {d e : PyData} (hf : fine n d = true) (h : e ∈ innersS d) : fine n e = true := by
  rcases inners_sub h with ⟨ds, rfl, hm⟩ | ⟨ds, es, rfl, hm, he⟩
  · obtain ⟨m, rfl⟩ := fine.pos hf
    exact fine.mono (fine.tup_in hf hm) (Nat.le_succ m)
  · obtain ⟨m, rfl⟩ := fine.pos hf
    have h2 := fine.tup_in hf hm
    obtain ⟨k, rfl⟩ := fine.pos h2
    exact fine.mono (fine.tup_in h2 he) (by omega)
theorem inners_len {n : Nat} {d : PyData} (hf : fine n d = true) : (innersS d).length ≤ 1000 := by
  cases d with
  | tuple ds =>
    rcases ds with _ | ⟨x, as⟩
    · exact Nat.zero_le _
    · have hl := fine.len hf
      rw [List.length_cons] at hl
      cases x with
      | str w =>
        unfold innersS
        simp only
        split
        · rw [List.length_take, List.length_drop]; omega
        · split
          · rw [List.length_take, List.length_drop]; omega
          · split
            · rcases as with _ | ⟨y, as⟩
              · exact Nat.zero_le _
              · cases y with
                | tuple es =>
                  obtain ⟨m, rfl⟩ := fine.pos hf
                  exact fine.len (fine.tup_in hf (d := .tuple es) (by simp))
                | _ => exact Nat.zero_le _
            · exact Nat.zero_le _
      | _ => exact Nat.zero_le _
  | _ => exact Nat.zero_le _
theorem r_eqD2' {K : PySem.W.Frag} {M : List Addr} {H : Hp} {Q : VK} {x y : V} {d e : PyData} (h1 : Dv M H x d) (h2 : Dv M H y e) (s1 : nice 63 d = true) (s2 : nice 63 e = true) (q : Q (.bl (PyData.eqv d e)) H) : rEqD K x y H Q := r_eqD h1.dp h2.dp (nice.shaped s1 (by decide)) (nice.shaped s2 (by decide)) q
def spRight : Sp := fun vs H Q _ => ∃ (M : List Addr) (v : V) (d : PyData), vs = [v] ∧ Dv M H v d ∧ fine 63 d = true ∧ ∀ H', Ex H H' → Q (.bl (rightHere d)) H'
def spPlain : Sp := fun vs H Q _ => ∃ (M : List Addr) (v : V) (w : Str) (as : List PyData), vs = [v] ∧ Dv M H v (.tuple (.str w :: as)) ∧ fine 63 (.tuple (.str w :: as)) = true ∧ ∀ H', Ex H H' → Q (.bl (plainR w as)) H'
def spInners : Sp := fun vs H Q _ => ∃ (M : List Addr) (v : V) (d : PyData), vs = [v] ∧ Dv M H v d ∧ rightHere d = true ∧ ∀ p xs H', Ex H H' → H' p = some (.tup xs) → Rel M H' xs (innersS d) → Q (.ref p) H'
def spIsSt : Sp := fun vs H Q _ => ∃ (M : List Addr) (v : V) (d : PyData), vs = [v] ∧ Dv M H v d ∧ fine 62 d = true ∧ ∀ H', Ex H H' → Q (.bl (rightSt d)) H'
end BkG
end
section
namespace BkG
open PySem PySem.Spec PyProof.Rows L2
/-! ### for a, b in zip(text, tuple) -/
def ItzS (K : PySem.W.Frag) (t : Str) (b : Addr) : It :=
  ⟨fun i H => ∃ (ys : List V) (y : V), SqT K H b ys ∧ i < t.cps.size ∧ ys[i]? = some y,
    fun i H v H' => ∃ (T : Addr) (c : Nat) (y : V), v = .ref T ∧ H T = none ∧ H' = upd H T (.tup [.str ⟨#[c]⟩, y]) ∧ t.cps[i]? = some c ∧ ∀ ys, SqT K H b ys → ys[i]? = some y,
    fun i H => ∃ ys : List V, SqT K H b ys ∧ i ≤ t.cps.size ∧ i ≤ ys.length ∧ (i = t.cps.size ∨ i = ys.length)⟩
/-- the hidden cells at turn i -/
def tnZS (t : Str) (tk : Tok) (b z TI TO i1 i2 : Addr) (i : Nat) (h : Heap) : Prop :=
  IsZip h z TI TO .none ∧ IsTupOf2 h TI (.ref i1) (.ref i2) ∧ (∃ x y, IsTupOf2 h TO x y) ∧ h.IsStrIter i1 (strIterType t) t tk i ∧ h.IsTupleIter i2 b i
theorem mem5 {c z TI TO i1 i2 : Addr} (h : c ∈ [z, TI, TO, i1, i2]) : c = z ∨ c = TI ∨ c = TO ∨ c = i1 ∨ c = i2 := by simpa using h
theorem turn_zipS {P : Program} {w : World} {K : PySem.W.Frag} {elts : List Expr} {kk : Nat} {tpos : Pos} {t : Str} {tk : Tok} {b z TI TO i1 i2 : Addr} (S : ZipSep2 z TI TO i1 i2 [i1] [i2, b]) (nb : b ≠ i2) :
    Turn P w K (.Tuple elts kk tpos) (ItzS K t b) [z, TI, TO, i1, i2] z (tnZS t tk b z TI TO i1 i2) where
  mem := by simp
  obj := fun i h st c hc => by
    obtain ⟨hz, hTI, ⟨x, y, hTO⟩, ⟨o1, q1, _, d1⟩, ⟨o2, q2, _, d2⟩⟩ := st
    rcases mem5 hc with e | e | e | e | e
    · exact ⟨_, by rw [e]; exact hz, fun v e => by cases e⟩
    · exact ⟨_, by rw [e]; exact hTI, fun v e => by cases e⟩
    · exact ⟨_, by rw [e]; exact hTO, fun v e => by cases e⟩
    · exact ⟨o1, by rw [e]; exact q1, fun v e => by rw [d1] at e; cases e⟩
    · exact ⟨o2, by rw [e]; exact q2, fun v e => by rw [d2] at e; cases e⟩
  keep := fun i h h' st kp => by
    obtain ⟨hz, hTI, ⟨x, y, hTO⟩, ⟨o1, q1, r1⟩, h2⟩ := st
    exact ⟨kp z (by simp) _ hz, kp TI (by simp) _ hTI, ⟨x, y, kp TO (by simp) _ hTO⟩, ⟨o1, kp i1 (by simp) _ q1, r1⟩, h2.at fun o e => kp i2 (by simp) o e⟩
  item := by
    intro X eP ew eK hc i ps s σ H E J hfp st hgo
    subst eP ew eK
    obtain ⟨hz, hTI, ⟨x0, y0, hTO⟩, h1, h2⟩ := st
    obtain ⟨ys, y, hys, hi, hy⟩ := hgo
    obtain ⟨us, rv, pt, _⟩ := J.tuple hys
    obtain ⟨u2, hu2, ru2⟩ := rv.get hy
    have hzl : z < s.heap.objs.size := Heap.lt_size hz
    have hl := (List.getElem?_eq_some_iff.mp hu2).1
    have hh : X.A.in1.handled = none := J.ok.hd hc
    refine wpAny_pyNext_zipD2_item S (Draws.text hh i1 t tk) (Draws.tuple hh i2 b nb us.toArray) hz hTI hTO h1 ⟨h2, pt⟩ hi (by simpa using hl) fun v1 v2 h' tk' hv1 hv2 z' TO' st1 st2 hT hsz kp => ?_
    obtain ⟨c, tc, hc1, rfl⟩ := hv1
    have ev : v2 = u2 := by
      have e1 : us.toArray[i]? = some u2 := by simpa using hu2
      rw [e1] at hv2; cases hv2; rfl
    subst ev
    refine ⟨_, rfl, wpAny_letOwnedTupleGo_zip (s := { s with heap := h', toks := tk' }) z' fun h'' z'' sb => ?_⟩
    have hT2 : h''.get? s.heap.objs.size = some { cls := .type "tuple", data := .seq #[.str ⟨#[c]⟩ tc, v2] } := (sb.2 _ (Nat.ne_of_gt hzl)).trans hT
    have made : ObjOk X.prog X.w (upd H s.heap.objs.size (.tup [.str ⟨#[c]⟩, y])) h'' s.heap.objs.size (.tup [.str ⟨#[c]⟩, y]) :=
      ⟨sz_of (by simp), [.str ⟨#[c]⟩ tc, v2], .cons ⟨tc, rfl⟩ (.cons ru2 .nil), ⟨_, hT2, rfl, _, rfl⟩⟩
    have other : ∀ a o, a ∉ [z, TI, TO, i1, i2] → s.heap.get? a = some o → h''.get? a = some o := fun a o na e =>
      (sb.2 a (fun q => na (by simp [q]))).trans (kp a o (fun q => na (by simp [q])) (fun q => na (by simp [q])) (fun q => na (by simp [q])) (fun q => na (by simp [q])) e)
    have J1 : Inv X ps σ (upd H s.heap.objs.size (.tup [.str ⟨#[c]⟩, y])) { s with heap := h'', toks := tk' } := J.turnedNew (t' := tk') (ch := [z, TI, TO, i1, i2]) other hfp (Nat.le_refl _) made
    have zi1 : i1 ≠ z := fun e => S.zf1 (by simp [e])
    have zi2 : i2 ≠ z := fun e => S.zf2 (by simp [e])
    refine ⟨.ref s.heap.objs.size, _, J1, rfl, ⟨_, c, y, rfl, J.hok.fresh (Nat.le_refl _), rfl, hc1, fun l hl => by rw [J.tuple_inj hl hys]; exact hy⟩, ⟨z'', ?_, ⟨.str ⟨#[c]⟩ tc, v2, ?_⟩, ?_, ?_⟩, fun a hm => ?_⟩
    · exact (sb.2 _ S.TIz).trans (kp _ _ S.TIz S.TITO S.TIi1 S.TIi2 hTI)
    · exact (sb.2 _ S.TOz).trans TO'
    · obtain ⟨o1, q1, r1⟩ := st1
      exact ⟨o1, (sb.2 _ zi1).trans q1, r1⟩
    · exact st2.1.at fun o e => (sb.2 _ zi2).trans e
    · have hlt : a < s.heap.objs.size := by
        obtain ⟨o1, q1, _⟩ := h1
        obtain ⟨o2, q2, _⟩ := h2
        rcases mem5 hm with e | e | e | e | e
        · rw [e]; exact hzl
        · rw [e]; exact Heap.lt_size hTI
        · rw [e]; exact Heap.lt_size hTO
        · rw [e]; exact Heap.lt_size q1
        · rw [e]; exact Heap.lt_size q2
      rw [upd_ne (Nat.ne_of_lt hlt)]
      exact (hfp a hm).1
  done := by
    intro X eP ew eK hc i ps s σ H E J hfp st hst
    subst eP ew eK
    obtain ⟨hz, hTI, ⟨x0, y0, hTO⟩, h1, h2⟩ := st
    obtain ⟨ys, hys, l1, l2, hend⟩ := hst
    obtain ⟨us, rv, pt, _⟩ := J.tuple hys
    have hlen := rv.length
    have hh : X.A.in1.handled = none := J.ok.hd hc
    have hend2 : i = t.cps.size ∨ i = us.toArray.size := by
      rcases hend with e | e
      · exact .inl e
      · exact .inr (by simp; omega)
    refine wpAny_pyNext_zipD2_end S (Draws.text hh i1 t tk) (Draws.tuple hh i2 b nb us.toArray) hz hTI hTO h1 ⟨h2, pt⟩ l1 (by simp; omega) hend2 fun h' tk' kp => ?_
    exact ⟨rfl, J.turnedL (t' := tk') (ch := [z, TI, TO, i1, i2]) (fun a o na e => kp a o (fun q => na (by simp [q])) (fun q => na (by simp [q])) (fun q => na (by simp [q])) (fun q => na (by simp [q])) e) hfp⟩
  self := fun A i s Q E st hq => wpAny_pyIter_zip st.1 hq
def iZipS (K : PySem.W.Frag) (ta : TA) : TI := fun σ H R => ta σ H fun vs H1 => ∃ t b ys, vs = [.str t, .ref b] ∧ SqT K H1 b ys ∧ R (ItzS K t b) H1
theorem pi_zipS {X : Cx} {e e2 : Expr} {ta : TA} {p pos tpos : Pos} {elts : List Expr} {kk : Nat} (hg : Gl X "zip") (hm : X.mg "zip" = none) (ha : PA X [e, e2] ta)
    (hs : starEach [e, e2] X.env = (false, eval e X.env) :: starEach [e2] X.env := by rfl) (hpl : (backTo pos (starEach [e2] X.env)).any (·.1) = false := by rfl) :
    PI X (.Tuple elts kk tpos) (.Call (.Name "zip" p) [e, e2] [] pos) (iZipS X.K ta) := by
  refine ⟨fun ps s σ H R J hw => ?_⟩
  refine Call_ (ld_blt J hg hm PyProof.Rows.boot_zip (PyProof.Rows.callWith_type1 (thn (ha.run pos ps s σ H _ J hw) fun us s1 ⟨vs, H1, J1, r1, q1⟩ => ?_) hs hpl))
  obtain ⟨t, b, ys, rfl, hys, q⟩ := q1
  cases r1 with
  | cons r rr =>
    cases rr with
    | cons r' rr =>
      cases rr
      obtain ⟨tk, rfl⟩ := r
      cases r'
      obtain ⟨its, rv, pt, _⟩ := J1.tuple hys
      obtain ⟨ob, hob, _⟩ := id pt
      have hlt : b < s1.heap.objs.size := Heap.lt_size hob
      have new5 : ∀ a, a ∈ [s1.heap.objs.size + 4, s1.heap.objs.size + 2, s1.heap.objs.size + 3, s1.heap.objs.size, s1.heap.objs.size + 1] → FpOk X ps H1 a := fun a hm => by
        have hle : s1.heap.objs.size ≤ a := by
          rcases mem5 hm with e | e | e | e | e
          all_goals rw [e]
          · exact Nat.le_add_right _ _
          · exact Nat.le_add_right _ _
          · exact Nat.le_add_right _ _
          · exact Nat.le_refl _
          · exact Nat.le_add_right _ _
        exact J1.fpOk hle (J1.hok.fresh hle)
      refine zip_begins2 (begins_text t tk) (begins_tuple b its.toArray) trivial pt fun h' hz hTI hTO g1 g2 hsz kp => wpAny_pyIter_zip hz ?_
      have J2 : Inv X ps σ H1 { s1 with heap := h' } := J1.kept (t' := s1.toks) kp
      have S : ZipSep2 (s1.heap.objs.size + 4) (s1.heap.objs.size + 2) (s1.heap.objs.size + 3) s1.heap.objs.size (s1.heap.objs.size + 1) [s1.heap.objs.size] [s1.heap.objs.size + 1, b] := zip_sep2 (fp1 := []) (fp2 := [b]) (by simp) (by simpa using hlt)
      exact ⟨s1.heap.objs.size + 4, [s1.heap.objs.size + 4, s1.heap.objs.size + 2, s1.heap.objs.size + 3, s1.heap.objs.size, s1.heap.objs.size + 1], _, _, H1, rfl, J2, turn_zipS (tk := tk) S (Nat.ne_of_lt (Nat.lt_succ_of_lt hlt)), ⟨hz, hTI, ⟨_, _, hTO⟩, ⟨_, g1, rfl, rfl⟩, ⟨_, g2, rfl, rfl⟩⟩, new5, q⟩
section
variable {K : PySem.W.Frag} {σ : L2.St} {H : Hp} {tb : TS} {f bk ct : L2.St → Hp → Prop} {rt : VK} {g : TG}
def aForZS (K : PySem.W.Frag) (g : TG) (tb : TS) (D : Ends) (σ : L2.St) : List V → Hp → Prop := fun vs H1 => ∃ t b ys, vs = [.str t, .ref b] ∧ SqT K H1 b ys ∧ ∃ W : Nat → Nat → L2.St → Hp → Prop, (∃ m, W 0 m σ H1) ∧ ∀ i m σ H, W i m σ H →
  ((ItzS K t b).stop i H ∧ D.nx σ H) ∨ ((ItzS K t b).go i H ∧ ∃ N : L2.St → Hp → Prop, (∀ σ' H', N σ' H' → ∃ m', m' < m ∧ W (i + 1) m' σ' H') ∧ ∀ x H', (ItzS K t b).yld i H x H' → g x σ H' fun σ2 H2 => tb { D with nx := N, ct := N, bk := D.nx } σ2 H2)
theorem w_forZS {ta : TA} (h : ta σ H (aForZS K g tb ⟨f, rt, bk, ct⟩ σ)) : tFor (iZipS K ta) g tb ⟨f, rt, bk, ct⟩ σ H := h
theorem a_forZS {t : Str} {b : Addr} {ys : List V} (h : SqT K H b ys) (hl : t.cps.size = ys.length) (Pv : Nat → L2.St → Hp → Prop) (h0 : Pv 0 σ H) (hk : ∀ i σ' H', Pv i σ' H' → SqT K H' b ys)
    (hs : ∀ (i c : Nat) (y : V) (T : Addr) σ' H' H2, t.cps[i]? = some c → ys[i]? = some y → Pv i σ' H' → Ex H' H2 → H2 T = some (.tup [.str ⟨#[c]⟩, y]) → g (.ref T) σ' H2 fun σ2 H3 => tb ⟨Pv (i + 1), rt, f, Pv (i + 1)⟩ σ2 H3) (hd : ∀ σ' H', Pv ys.length σ' H' → f σ' H') :
    aForZS K g tb ⟨f, rt, bk, ct⟩ σ [.str t, .ref b] H := by
  refine ⟨t, b, ys, rfl, h, fun i m σ' H' => m = ys.length - i ∧ i ≤ ys.length ∧ Pv i σ' H', ⟨ys.length, rfl, Nat.zero_le _, h0⟩, ?_⟩
  rintro i m σ' H' ⟨rfl, hi, p⟩
  have q := hk i σ' H' p
  by_cases hlt : i < ys.length
  · have hy : ys[i]? = some ys[i] := List.getElem?_eq_getElem hlt
    refine .inr ⟨⟨ys, _, q, by omega, hy⟩, Pv (i + 1), fun σ2 H2 p2 => ⟨ys.length - (i + 1), by omega, rfl, hlt, p2⟩, fun v H2 yl => ?_⟩
    obtain ⟨T, c, y', rfl, hT, rfl, hc, hy'⟩ := yl
    exact hs i c y' T σ' H' _ hc (hy' ys q) p (Ex.new hT) upd_same
  · have e : i = ys.length := by omega
    subst e
    exact .inl ⟨⟨ys, q, by omega, Nat.le_refl _, .inr rfl⟩, hd σ' H' p⟩
end
end BkG
end
section
namespace BkG
open PySem PySem.Spec L2 TL
/-! ### a conditional expression as a test -/
def tIfT (tc ta tb : TT) : TT := fun σ H Q => tc σ H fun c H1 => if c = true then ta σ H1 Q else tb σ H1 Q
theorem pt_ifT {X : Cx} {c a b : Expr} {tc ta tb : TT} {pos : Pos} (hc : PT X c tc) (ha : PT X a ta) (hb : PT X b tb) : PT X (.IfExp c a b pos) (tIfT tc ta tb) := by
  refine ⟨fun ps s σ H Q J h => ?_⟩
  refine PyProof.Rows.isTrue_IfExp (thn (hc.run ps s σ H _ J h) fun k s1 ⟨H1, J1, q1⟩ => ?_)
  cases k with
  | true => exact ha.run ps s1 σ H1 Q J1 q1
  | false => exact hb.run ps s1 σ H1 Q J1 q1
theorem w_ifT {σ : L2.St} {H : Hp} {tc ta tb : TT} {Q : Bool → Hp → Prop} (h : tc σ H fun c H1 => if c = true then ta σ H1 Q else tb σ H1 Q) : tIfT tc ta tb σ H Q := h
/-! ### statements by their forms -/
def forms1 : List (Str × Str) := [("skip", ""), ("plus", "pe"), ("minus", "pe"), ("mix", "pe"), ("times", "pi"), ("turn", "pi"), ("swap", "pp"), ("push", "nn"), ("row", "r")]
def forms2 : List (Str × Str) := [("pop", "nn"), ("send", "nn"), ("take", "nn"), ("if", "esse"), ("loop", "esse"), ("local", "nese"), ("call", "ct"), ("uncall", "ct")]
def formsL : List (Str × Str) := forms1 ++ forms2
def formK : List (Key × V) := formsL.map fun p => (.inr p.1, .str p.2)
def formS (w : Str) : Option Str := (formsL.find? fun p => decide (p.1 = w)).map (·.2)
/-- p, e, i, n, c, t, r, s -/
def okArg (c : Nat) (d : PyData) : Bool :=
  if c = 112 then isPlaceD d else if c = 101 then rightExp d else if c = 105 then isIntg d else if c = 110 then isNameD d else if c = 99 then isCalledD d else if c = 116 then areNamesD 20 d else if c = 114 then isTup d else true
def argIn (c : Nat) (d : PyData) : List PyData := if c = 114 then (match d with
    | .tuple ds => ds
    | _ => []) else if c = 115 then [d] else []
def argsOk : List Nat → List PyData → Bool
  | [], [] => true
  | c :: cs, d :: ds => okArg c d && argsOk cs ds
  | _, _ => false
def argsIn : List Nat → List PyData → List PyData
  | c :: cs, d :: ds => argIn c d ++ argsIn cs ds
  | _, _ => []
theorem formS_some {w f : Str} (h : formS w = some f) : (w, f) ∈ formsL := by
  unfold formS at h
  cases e : formsL.find? (fun p => decide (p.1 = w)) with
  | none => rw [e] at h; cases h
  | some p =>
    rw [e] at h
    have h1 := List.find?_some e
    have h2 := List.mem_of_find?_eq_some e
    have h3 : p.2 = f := Option.some.inj h
    have h4 : p.1 = w := of_decide_eq_true h1
    rw [← h3, ← h4]; exact h2
theorem len_1 {as : List PyData} (h : as.length = 1) : ∃ a, as = [a] := by
  rcases as with _ | ⟨a, _ | ⟨b, as⟩⟩ <;> first | exact ⟨_, rfl⟩ | (simp at h; done)
theorem len_2 {as : List PyData} (h : as.length = 2) : ∃ a b, as = [a, b] := by
  rcases as with _ | ⟨a, _ | ⟨b, _ | ⟨c, as⟩⟩⟩ <;> first | exact ⟨_, _, rfl⟩ | (simp at h; done)
theorem len_4 {as : List PyData} (h : as.length = 4) : ∃ a b c d, as = [a, b, c, d] := by
  rcases as with _ | ⟨a, _ | ⟨b, _ | ⟨c, _ | ⟨d, _ | ⟨e, as⟩⟩⟩⟩⟩ <;> first | exact ⟨_, _, _, _, rfl⟩ | (simp at h; done)
theorem form_here {w f : Str} {as : List PyData} (h : formS w = some f) (hl : f.cps.toList.length = as.length) : hereR w as = argsOk f.cps.toList as ∧ innersS (.tuple (.str w :: as)) = argsIn f.cps.toList as := by
  have hm := formS_some h
  simp only [formsL, forms1, forms2, List.cons_append, List.nil_append, List.mem_cons, List.not_mem_nil, or_false, Prod.mk.injEq] at hm
  rcases hm with ⟨rfl, rfl⟩ | ⟨rfl, rfl⟩ | ⟨rfl, rfl⟩ | ⟨rfl, rfl⟩ | ⟨rfl, rfl⟩ | ⟨rfl, rfl⟩ | ⟨rfl, rfl⟩ | ⟨rfl, rfl⟩ | ⟨rfl, rfl⟩ | ⟨rfl, rfl⟩ | ⟨rfl, rfl⟩ | ⟨rfl, rfl⟩ | ⟨rfl, rfl⟩ | ⟨rfl, rfl⟩ | ⟨rfl, rfl⟩ | ⟨rfl, rfl⟩ | ⟨rfl, rfl⟩
  · have ec : (Str.ofString "").cps.toList = [] := by decide +kernel
    rw [ec] at hl ⊢
    obtain rfl : as = [] := List.length_eq_zero_iff.mp hl.symm
    have c0 : wIn (Str.ofString "skip") [Str.ofString "if", Str.ofString "loop"] = false := by decide +kernel
    have c1 : ¬ (Str.ofString "skip" = Str.ofString "local") := by decide +kernel
    have c2 : wIn (Str.ofString "skip") [Str.ofString "call", Str.ofString "uncall"] = false := by decide +kernel
    have c3 : ¬ (Str.ofString "skip" = Str.ofString "row") := by decide +kernel
    have c5 : wIn (Str.ofString "skip") [Str.ofString "plus", Str.ofString "minus", Str.ofString "mix"] = false := by decide +kernel
    have c6 : wIn (Str.ofString "skip") [Str.ofString "times", Str.ofString "turn"] = false := by decide +kernel
    have c7 : ¬ (Str.ofString "skip" = Str.ofString "swap") := by decide +kernel
    have c8 : wIn (Str.ofString "skip") [Str.ofString "push", Str.ofString "pop", Str.ofString "send", Str.ofString "take"] = false := by decide +kernel
    exact ⟨by simp [hereR, plainR, argsOk, okArg, Bool.and_assoc, c0, c1, c2, c3, c5, c6, c7, c8], by simp [innersS, argsIn, argIn, c0, c1, c2, c3, c5, c6, c7, c8]⟩
  · have ec : (Str.ofString "pe").cps.toList = [112, 101] := by decide +kernel
    rw [ec] at hl ⊢
    obtain ⟨a, b, rfl⟩ := len_2 hl.symm
    have c0 : wIn (Str.ofString "plus") [Str.ofString "if", Str.ofString "loop"] = false := by decide +kernel
    have c1 : ¬ (Str.ofString "plus" = Str.ofString "local") := by decide +kernel
    have c2 : wIn (Str.ofString "plus") [Str.ofString "call", Str.ofString "uncall"] = false := by decide +kernel
    have c3 : ¬ (Str.ofString "plus" = Str.ofString "row") := by decide +kernel
    have c4 : ¬ (Str.ofString "plus" = Str.ofString "skip") := by decide +kernel
    have c5 : wIn (Str.ofString "plus") [Str.ofString "plus", Str.ofString "minus", Str.ofString "mix"] = true := by decide +kernel
    have c6 : wIn (Str.ofString "plus") [Str.ofString "times", Str.ofString "turn"] = false := by decide +kernel
    have c7 : ¬ (Str.ofString "plus" = Str.ofString "swap") := by decide +kernel
    have c8 : wIn (Str.ofString "plus") [Str.ofString "push", Str.ofString "pop", Str.ofString "send", Str.ofString "take"] = false := by decide +kernel
    exact ⟨by simp [hereR, plainR, argsOk, okArg, Bool.and_assoc, c0, c1, c2, c3, c4, c5, c6, c7, c8], by simp [innersS, argsIn, argIn, c0, c1, c2, c3, c4, c5, c6, c7, c8]⟩
  · have ec : (Str.ofString "pe").cps.toList = [112, 101] := by decide +kernel
    rw [ec] at hl ⊢
    obtain ⟨a, b, rfl⟩ := len_2 hl.symm
    have c0 : wIn (Str.ofString "minus") [Str.ofString "if", Str.ofString "loop"] = false := by decide +kernel
    have c1 : ¬ (Str.ofString "minus" = Str.ofString "local") := by decide +kernel
    have c2 : wIn (Str.ofString "minus") [Str.ofString "call", Str.ofString "uncall"] = false := by decide +kernel
    have c3 : ¬ (Str.ofString "minus" = Str.ofString "row") := by decide +kernel
    have c4 : ¬ (Str.ofString "minus" = Str.ofString "skip") := by decide +kernel
    have c5 : wIn (Str.ofString "minus") [Str.ofString "plus", Str.ofString "minus", Str.ofString "mix"] = true := by decide +kernel
    have c6 : wIn (Str.ofString "minus") [Str.ofString "times", Str.ofString "turn"] = false := by decide +kernel
    have c7 : ¬ (Str.ofString "minus" = Str.ofString "swap") := by decide +kernel
    have c8 : wIn (Str.ofString "minus") [Str.ofString "push", Str.ofString "pop", Str.ofString "send", Str.ofString "take"] = false := by decide +kernel
    exact ⟨by simp [hereR, plainR, argsOk, okArg, Bool.and_assoc, c0, c1, c2, c3, c4, c5, c6, c7, c8], by simp [innersS, argsIn, argIn, c0, c1, c2, c3, c4, c5, c6, c7, c8]⟩
  · have ec : (Str.ofString "pe").cps.toList = [112, 101] := by decide +kernel
    rw [ec] at hl ⊢
    obtain ⟨a, b, rfl⟩ := len_2 hl.symm
    have c0 : wIn (Str.ofString "mix") [Str.ofString "if", Str.ofString "loop"] = false := by decide +kernel
    have c1 : ¬ (Str.ofString "mix" = Str.ofString "local") := by decide +kernel
    have c2 : wIn (Str.ofString "mix") [Str.ofString "call", Str.ofString "uncall"] = false := by decide +kernel
    have c3 : ¬ (Str.ofString "mix" = Str.ofString "row") := by decide +kernel
    have c4 : ¬ (Str.ofString "mix" = Str.ofString "skip") := by decide +kernel
    have c5 : wIn (Str.ofString "mix") [Str.ofString "plus", Str.ofString "minus", Str.ofString "mix"] = true := by decide +kernel
    have c6 : wIn (Str.ofString "mix") [Str.ofString "times", Str.ofString "turn"] = false := by decide +kernel
    have c7 : ¬ (Str.ofString "mix" = Str.ofString "swap") := by decide +kernel
    have c8 : wIn (Str.ofString "mix") [Str.ofString "push", Str.ofString "pop", Str.ofString "send", Str.ofString "take"] = false := by decide +kernel
    exact ⟨by simp [hereR, plainR, argsOk, okArg, Bool.and_assoc, c0, c1, c2, c3, c4, c5, c6, c7, c8], by simp [innersS, argsIn, argIn, c0, c1, c2, c3, c4, c5, c6, c7, c8]⟩
  · have ec : (Str.ofString "pi").cps.toList = [112, 105] := by decide +kernel
    rw [ec] at hl ⊢
    obtain ⟨a, b, rfl⟩ := len_2 hl.symm
    have c0 : wIn (Str.ofString "times") [Str.ofString "if", Str.ofString "loop"] = false := by decide +kernel
    have c1 : ¬ (Str.ofString "times" = Str.ofString "local") := by decide +kernel
    have c2 : wIn (Str.ofString "times") [Str.ofString "call", Str.ofString "uncall"] = false := by decide +kernel
    have c3 : ¬ (Str.ofString "times" = Str.ofString "row") := by decide +kernel
    have c4 : ¬ (Str.ofString "times" = Str.ofString "skip") := by decide +kernel
    have c5 : wIn (Str.ofString "times") [Str.ofString "plus", Str.ofString "minus", Str.ofString "mix"] = false := by decide +kernel
    have c6 : wIn (Str.ofString "times") [Str.ofString "times", Str.ofString "turn"] = true := by decide +kernel
    have c7 : ¬ (Str.ofString "times" = Str.ofString "swap") := by decide +kernel
    have c8 : wIn (Str.ofString "times") [Str.ofString "push", Str.ofString "pop", Str.ofString "send", Str.ofString "take"] = false := by decide +kernel
    exact ⟨by simp [hereR, plainR, argsOk, okArg, Bool.and_assoc, c0, c1, c2, c3, c4, c5, c6, c7, c8], by simp [innersS, argsIn, argIn, c0, c1, c2, c3, c4, c5, c6, c7, c8]⟩
  · have ec : (Str.ofString "pi").cps.toList = [112, 105] := by decide +kernel
    rw [ec] at hl ⊢
    obtain ⟨a, b, rfl⟩ := len_2 hl.symm
    have c0 : wIn (Str.ofString "turn") [Str.ofString "if", Str.ofString "loop"] = false := by decide +kernel
    have c1 : ¬ (Str.ofString "turn" = Str.ofString "local") := by decide +kernel
    have c2 : wIn (Str.ofString "turn") [Str.ofString "call", Str.ofString "uncall"] = false := by decide +kernel
    have c3 : ¬ (Str.ofString "turn" = Str.ofString "row") := by decide +kernel
    have c4 : ¬ (Str.ofString "turn" = Str.ofString "skip") := by decide +kernel
    have c5 : wIn (Str.ofString "turn") [Str.ofString "plus", Str.ofString "minus", Str.ofString "mix"] = false := by decide +kernel
    have c6 : wIn (Str.ofString "turn") [Str.ofString "times", Str.ofString "turn"] = true := by decide +kernel
    have c7 : ¬ (Str.ofString "turn" = Str.ofString "swap") := by decide +kernel
    have c8 : wIn (Str.ofString "turn") [Str.ofString "push", Str.ofString "pop", Str.ofString "send", Str.ofString "take"] = false := by decide +kernel
    exact ⟨by simp [hereR, plainR, argsOk, okArg, Bool.and_assoc, c0, c1, c2, c3, c4, c5, c6, c7, c8], by simp [innersS, argsIn, argIn, c0, c1, c2, c3, c4, c5, c6, c7, c8]⟩
  · have ec : (Str.ofString "pp").cps.toList = [112, 112] := by decide +kernel
    rw [ec] at hl ⊢
    obtain ⟨a, b, rfl⟩ := len_2 hl.symm
    have c0 : wIn (Str.ofString "swap") [Str.ofString "if", Str.ofString "loop"] = false := by decide +kernel
    have c1 : ¬ (Str.ofString "swap" = Str.ofString "local") := by decide +kernel
    have c2 : wIn (Str.ofString "swap") [Str.ofString "call", Str.ofString "uncall"] = false := by decide +kernel
    have c3 : ¬ (Str.ofString "swap" = Str.ofString "row") := by decide +kernel
    have c4 : ¬ (Str.ofString "swap" = Str.ofString "skip") := by decide +kernel
    have c5 : wIn (Str.ofString "swap") [Str.ofString "plus", Str.ofString "minus", Str.ofString "mix"] = false := by decide +kernel
    have c6 : wIn (Str.ofString "swap") [Str.ofString "times", Str.ofString "turn"] = false := by decide +kernel
    have c8 : wIn (Str.ofString "swap") [Str.ofString "push", Str.ofString "pop", Str.ofString "send", Str.ofString "take"] = false := by decide +kernel
    exact ⟨by simp [hereR, plainR, argsOk, okArg, Bool.and_assoc, c0, c1, c2, c3, c4, c5, c6, c8], by simp [innersS, argsIn, argIn, c0, c1, c2, c3, c4, c5, c6, c8]⟩
  · have ec : (Str.ofString "nn").cps.toList = [110, 110] := by decide +kernel
    rw [ec] at hl ⊢
    obtain ⟨a, b, rfl⟩ := len_2 hl.symm
    have c0 : wIn (Str.ofString "push") [Str.ofString "if", Str.ofString "loop"] = false := by decide +kernel
    have c1 : ¬ (Str.ofString "push" = Str.ofString "local") := by decide +kernel
    have c2 : wIn (Str.ofString "push") [Str.ofString "call", Str.ofString "uncall"] = false := by decide +kernel
    have c3 : ¬ (Str.ofString "push" = Str.ofString "row") := by decide +kernel
    have c4 : ¬ (Str.ofString "push" = Str.ofString "skip") := by decide +kernel
    have c5 : wIn (Str.ofString "push") [Str.ofString "plus", Str.ofString "minus", Str.ofString "mix"] = false := by decide +kernel
    have c6 : wIn (Str.ofString "push") [Str.ofString "times", Str.ofString "turn"] = false := by decide +kernel
    have c7 : ¬ (Str.ofString "push" = Str.ofString "swap") := by decide +kernel
    have c8 : wIn (Str.ofString "push") [Str.ofString "push", Str.ofString "pop", Str.ofString "send", Str.ofString "take"] = true := by decide +kernel
    exact ⟨by simp [hereR, plainR, argsOk, okArg, Bool.and_assoc, c0, c1, c2, c3, c4, c5, c6, c7, c8], by simp [innersS, argsIn, argIn, c0, c1, c2, c3, c4, c5, c6, c7, c8]⟩
  · have ec : (Str.ofString "r").cps.toList = [114] := by decide +kernel
    rw [ec] at hl ⊢
    obtain ⟨a, rfl⟩ := len_1 hl.symm
    have c0 : wIn (Str.ofString "row") [Str.ofString "if", Str.ofString "loop"] = false := by decide +kernel
    have c1 : ¬ (Str.ofString "row" = Str.ofString "local") := by decide +kernel
    have c2 : wIn (Str.ofString "row") [Str.ofString "call", Str.ofString "uncall"] = false := by decide +kernel
    have c4 : ¬ (Str.ofString "row" = Str.ofString "skip") := by decide +kernel
    have c5 : wIn (Str.ofString "row") [Str.ofString "plus", Str.ofString "minus", Str.ofString "mix"] = false := by decide +kernel
    have c6 : wIn (Str.ofString "row") [Str.ofString "times", Str.ofString "turn"] = false := by decide +kernel
    have c7 : ¬ (Str.ofString "row" = Str.ofString "swap") := by decide +kernel
    have c8 : wIn (Str.ofString "row") [Str.ofString "push", Str.ofString "pop", Str.ofString "send", Str.ofString "take"] = false := by decide +kernel
    refine ⟨?_, ?_⟩
    · cases a <;> simp [hereR, argsOk, okArg, isTup, c0, c1, c2, c4, c5, c6, c7, c8]
    · cases a <;> simp [innersS, argsIn, argIn, c0, c1, c2, c4, c5, c6, c7, c8]
  · have ec : (Str.ofString "nn").cps.toList = [110, 110] := by decide +kernel
    rw [ec] at hl ⊢
    obtain ⟨a, b, rfl⟩ := len_2 hl.symm
    have c0 : wIn (Str.ofString "pop") [Str.ofString "if", Str.ofString "loop"] = false := by decide +kernel
    have c1 : ¬ (Str.ofString "pop" = Str.ofString "local") := by decide +kernel
    have c2 : wIn (Str.ofString "pop") [Str.ofString "call", Str.ofString "uncall"] = false := by decide +kernel
    have c3 : ¬ (Str.ofString "pop" = Str.ofString "row") := by decide +kernel
    have c4 : ¬ (Str.ofString "pop" = Str.ofString "skip") := by decide +kernel
    have c5 : wIn (Str.ofString "pop") [Str.ofString "plus", Str.ofString "minus", Str.ofString "mix"] = false := by decide +kernel
    have c6 : wIn (Str.ofString "pop") [Str.ofString "times", Str.ofString "turn"] = false := by decide +kernel
    have c7 : ¬ (Str.ofString "pop" = Str.ofString "swap") := by decide +kernel
    have c8 : wIn (Str.ofString "pop") [Str.ofString "push", Str.ofString "pop", Str.ofString "send", Str.ofString "take"] = true := by decide +kernel
    exact ⟨by simp [hereR, plainR, argsOk, okArg, Bool.and_assoc, c0, c1, c2, c3, c4, c5, c6, c7, c8], by simp [innersS, argsIn, argIn, c0, c1, c2, c3, c4, c5, c6, c7, c8]⟩
  · have ec : (Str.ofString "nn").cps.toList = [110, 110] := by decide +kernel
    rw [ec] at hl ⊢
    obtain ⟨a, b, rfl⟩ := len_2 hl.symm
    have c0 : wIn (Str.ofString "send") [Str.ofString "if", Str.ofString "loop"] = false := by decide +kernel
    have c1 : ¬ (Str.ofString "send" = Str.ofString "local") := by decide +kernel
    have c2 : wIn (Str.ofString "send") [Str.ofString "call", Str.ofString "uncall"] = false := by decide +kernel
    have c3 : ¬ (Str.ofString "send" = Str.ofString "row") := by decide +kernel
    have c4 : ¬ (Str.ofString "send" = Str.ofString "skip") := by decide +kernel
    have c5 : wIn (Str.ofString "send") [Str.ofString "plus", Str.ofString "minus", Str.ofString "mix"] = false := by decide +kernel
    have c6 : wIn (Str.ofString "send") [Str.ofString "times", Str.ofString "turn"] = false := by decide +kernel
    have c7 : ¬ (Str.ofString "send" = Str.ofString "swap") := by decide +kernel
    have c8 : wIn (Str.ofString "send") [Str.ofString "push", Str.ofString "pop", Str.ofString "send", Str.ofString "take"] = true := by decide +kernel
    exact ⟨by simp [hereR, plainR, argsOk, okArg, Bool.and_assoc, c0, c1, c2, c3, c4, c5, c6, c7, c8], by simp [innersS, argsIn, argIn, c0, c1, c2, c3, c4, c5, c6, c7, c8]⟩
  · have ec : (Str.ofString "nn").cps.toList = [110, 110] := by decide +kernel
    rw [ec] at hl ⊢
    obtain ⟨a, b, rfl⟩ := len_2 hl.symm
    have c0 : wIn (Str.ofString "take") [Str.ofString "if", Str.ofString "loop"] = false := by decide +kernel
    have c1 : ¬ (Str.ofString "take" = Str.ofString "local") := by decide +kernel
    have c2 : wIn (Str.ofString "take") [Str.ofString "call", Str.ofString "uncall"] = false := by decide +kernel
    have c3 : ¬ (Str.ofString "take" = Str.ofString "row") := by decide +kernel
    have c4 : ¬ (Str.ofString "take" = Str.ofString "skip") := by decide +kernel
    have c5 : wIn (Str.ofString "take") [Str.ofString "plus", Str.ofString "minus", Str.ofString "mix"] = false := by decide +kernel
    have c6 : wIn (Str.ofString "take") [Str.ofString "times", Str.ofString "turn"] = false := by decide +kernel
    have c7 : ¬ (Str.ofString "take" = Str.ofString "swap") := by decide +kernel
    have c8 : wIn (Str.ofString "take") [Str.ofString "push", Str.ofString "pop", Str.ofString "send", Str.ofString "take"] = true := by decide +kernel
    exact ⟨by simp [hereR, plainR, argsOk, okArg, Bool.and_assoc, c0, c1, c2, c3, c4, c5, c6, c7, c8], by simp [innersS, argsIn, argIn, c0, c1, c2, c3, c4, c5, c6, c7, c8]⟩
  · have ec : (Str.ofString "esse").cps.toList = [101, 115, 115, 101] := by decide +kernel
    rw [ec] at hl ⊢
    obtain ⟨a, b, c, d, rfl⟩ := len_4 hl.symm
    have c0 : wIn (Str.ofString "if") [Str.ofString "if", Str.ofString "loop"] = true := by decide +kernel
    have c1 : ¬ (Str.ofString "if" = Str.ofString "local") := by decide +kernel
    have c2 : wIn (Str.ofString "if") [Str.ofString "call", Str.ofString "uncall"] = false := by decide +kernel
    have c3 : ¬ (Str.ofString "if" = Str.ofString "row") := by decide +kernel
    have c4 : ¬ (Str.ofString "if" = Str.ofString "skip") := by decide +kernel
    have c5 : wIn (Str.ofString "if") [Str.ofString "plus", Str.ofString "minus", Str.ofString "mix"] = false := by decide +kernel
    have c6 : wIn (Str.ofString "if") [Str.ofString "times", Str.ofString "turn"] = false := by decide +kernel
    have c7 : ¬ (Str.ofString "if" = Str.ofString "swap") := by decide +kernel
    have c8 : wIn (Str.ofString "if") [Str.ofString "push", Str.ofString "pop", Str.ofString "send", Str.ofString "take"] = false := by decide +kernel
    exact ⟨by simp [hereR, plainR, argsOk, okArg, Bool.and_assoc, c0, c1, c2, c3, c4, c5, c6, c7, c8], by simp [innersS, argsIn, argIn, c0, c1, c2, c3, c4, c5, c6, c7, c8]⟩
  · have ec : (Str.ofString "esse").cps.toList = [101, 115, 115, 101] := by decide +kernel
    rw [ec] at hl ⊢
    obtain ⟨a, b, c, d, rfl⟩ := len_4 hl.symm
    have c0 : wIn (Str.ofString "loop") [Str.ofString "if", Str.ofString "loop"] = true := by decide +kernel
    have c1 : ¬ (Str.ofString "loop" = Str.ofString "local") := by decide +kernel
    have c2 : wIn (Str.ofString "loop") [Str.ofString "call", Str.ofString "uncall"] = false := by decide +kernel
    have c3 : ¬ (Str.ofString "loop" = Str.ofString "row") := by decide +kernel
    have c4 : ¬ (Str.ofString "loop" = Str.ofString "skip") := by decide +kernel
    have c5 : wIn (Str.ofString "loop") [Str.ofString "plus", Str.ofString "minus", Str.ofString "mix"] = false := by decide +kernel
    have c6 : wIn (Str.ofString "loop") [Str.ofString "times", Str.ofString "turn"] = false := by decide +kernel
    have c7 : ¬ (Str.ofString "loop" = Str.ofString "swap") := by decide +kernel
    have c8 : wIn (Str.ofString "loop") [Str.ofString "push", Str.ofString "pop", Str.ofString "send", Str.ofString "take"] = false := by decide +kernel
    exact ⟨by simp [hereR, plainR, argsOk, okArg, Bool.and_assoc, c0, c1, c2, c3, c4, c5, c6, c7, c8], by simp [innersS, argsIn, argIn, c0, c1, c2, c3, c4, c5, c6, c7, c8]⟩
  · have ec : (Str.ofString "nese").cps.toList = [110, 101, 115, 101] := by decide +kernel
    rw [ec] at hl ⊢
    obtain ⟨a, b, c, d, rfl⟩ := len_4 hl.symm
    have c0 : wIn (Str.ofString "local") [Str.ofString "if", Str.ofString "loop"] = false := by decide +kernel
    have c2 : wIn (Str.ofString "local") [Str.ofString "call", Str.ofString "uncall"] = false := by decide +kernel
    have c3 : ¬ (Str.ofString "local" = Str.ofString "row") := by decide +kernel
    have c4 : ¬ (Str.ofString "local" = Str.ofString "skip") := by decide +kernel
    have c5 : wIn (Str.ofString "local") [Str.ofString "plus", Str.ofString "minus", Str.ofString "mix"] = false := by decide +kernel
    have c6 : wIn (Str.ofString "local") [Str.ofString "times", Str.ofString "turn"] = false := by decide +kernel
    have c7 : ¬ (Str.ofString "local" = Str.ofString "swap") := by decide +kernel
    have c8 : wIn (Str.ofString "local") [Str.ofString "push", Str.ofString "pop", Str.ofString "send", Str.ofString "take"] = false := by decide +kernel
    exact ⟨by simp [hereR, plainR, argsOk, okArg, Bool.and_assoc, c0, c2, c3, c4, c5, c6, c7, c8], by simp [innersS, argsIn, argIn, c0, c2, c3, c4, c5, c6, c7, c8]⟩
  · have ec : (Str.ofString "ct").cps.toList = [99, 116] := by decide +kernel
    rw [ec] at hl ⊢
    obtain ⟨a, b, rfl⟩ := len_2 hl.symm
    have c0 : wIn (Str.ofString "call") [Str.ofString "if", Str.ofString "loop"] = false := by decide +kernel
    have c1 : ¬ (Str.ofString "call" = Str.ofString "local") := by decide +kernel
    have c2 : wIn (Str.ofString "call") [Str.ofString "call", Str.ofString "uncall"] = true := by decide +kernel
    have c3 : ¬ (Str.ofString "call" = Str.ofString "row") := by decide +kernel
    have c4 : ¬ (Str.ofString "call" = Str.ofString "skip") := by decide +kernel
    have c5 : wIn (Str.ofString "call") [Str.ofString "plus", Str.ofString "minus", Str.ofString "mix"] = false := by decide +kernel
    have c6 : wIn (Str.ofString "call") [Str.ofString "times", Str.ofString "turn"] = false := by decide +kernel
    have c7 : ¬ (Str.ofString "call" = Str.ofString "swap") := by decide +kernel
    have c8 : wIn (Str.ofString "call") [Str.ofString "push", Str.ofString "pop", Str.ofString "send", Str.ofString "take"] = false := by decide +kernel
    exact ⟨by simp [hereR, plainR, argsOk, okArg, Bool.and_assoc, c0, c1, c2, c3, c4, c5, c6, c7, c8], by simp [innersS, argsIn, argIn, c0, c1, c2, c3, c4, c5, c6, c7, c8]⟩
  · have ec : (Str.ofString "ct").cps.toList = [99, 116] := by decide +kernel
    rw [ec] at hl ⊢
    obtain ⟨a, b, rfl⟩ := len_2 hl.symm
    have c0 : wIn (Str.ofString "uncall") [Str.ofString "if", Str.ofString "loop"] = false := by decide +kernel
    have c1 : ¬ (Str.ofString "uncall" = Str.ofString "local") := by decide +kernel
    have c2 : wIn (Str.ofString "uncall") [Str.ofString "call", Str.ofString "uncall"] = true := by decide +kernel
    have c3 : ¬ (Str.ofString "uncall" = Str.ofString "row") := by decide +kernel
    have c4 : ¬ (Str.ofString "uncall" = Str.ofString "skip") := by decide +kernel
    have c5 : wIn (Str.ofString "uncall") [Str.ofString "plus", Str.ofString "minus", Str.ofString "mix"] = false := by decide +kernel
    have c6 : wIn (Str.ofString "uncall") [Str.ofString "times", Str.ofString "turn"] = false := by decide +kernel
    have c7 : ¬ (Str.ofString "uncall" = Str.ofString "swap") := by decide +kernel
    have c8 : wIn (Str.ofString "uncall") [Str.ofString "push", Str.ofString "pop", Str.ofString "send", Str.ofString "take"] = false := by decide +kernel
    exact ⟨by simp [hereR, plainR, argsOk, okArg, Bool.and_assoc, c0, c1, c2, c3, c4, c5, c6, c7, c8], by simp [innersS, argsIn, argIn, c0, c1, c2, c3, c4, c5, c6, c7, c8]⟩
theorem formS_len {w f : Str} (h : formS w = some f) : f.length ≤ 4 := by
  have h2 : formsL.all (fun p => decide (p.2.length ≤ 4)) = true := by decide +kernel
  rw [List.all_eq_true] at h2
  exact of_decide_eq_true (h2 _ (formS_some h))
theorem formS_signs {w f : Str} (h : formS w = some f) : ∀ c ∈ f.cps.toList, c = 112 ∨ c = 101 ∨ c = 105 ∨ c = 110 ∨ c = 99 ∨ c = 116 ∨ c = 114 ∨ c = 115 := by
  have h2 : formsL.all (fun p => p.2.cps.toList.all fun c => decide (c = 112 ∨ c = 101 ∨ c = 105 ∨ c = 110 ∨ c = 99 ∨ c = 116 ∨ c = 114 ∨ c = 115)) = true := by decide +kernel
  rw [List.all_eq_true] at h2
  have h3 := h2 _ (formS_some h)
  rw [List.all_eq_true] at h3
  exact fun c hc => of_decide_eq_true (h3 c hc)
theorem formK_get {w : Str} : valV formK (.inr w) = (formS w).map V.str := by
  unfold valV formK formS
  rw [List.find?_map]
  have e : ((fun kv : Key × V => decide (kv.1 = .inr w)) ∘ fun p : Str × Str => ((.inr p.1 : Key), V.str p.2)) = fun p : Str × Str => decide (p.1 = w) := by
    funext p
    simp
  rw [e]
  cases formsL.find? (fun p => decide (p.1 = w)) <;> rfl
theorem w_dnotin {td ty : TE} {σ : L2.St} {H : Hp} {Q : VK} (h : ty σ H fun y H1 => td σ H1 fun x H2 => ∃ a o, x = .ref a ∧ DGet H2 a y o ∧ Q (.bl (!o.isSome)) H2) : tDNotIn ty td σ H Q := h
theorem isEmpty_filterD {f : PyData → Bool} : ∀ {l : List PyData}, (l.filter fun c => !f c).isEmpty = l.all f
  | [] => rfl
  | c :: l => by by_cases h : f c = true <;> simp [h, isEmpty_filterD (f := f) (l := l)]
theorem filter_take {f : PyData → Bool} {ds : List PyData} {i : Nat} {d : PyData} (h : ds[i]? = some d) : (ds.take (i + 1)).filter f = (ds.take i).filter f ++ (if f d = true then [d] else []) := by
  rw [take_more h, List.filter_append]; congr 1; by_cases e : f d = true <;> simp [e]
theorem snoc_rel {R : V → PyData → Prop} {xs : List V} {ds : List PyData} {x : V} {d : PyData} (l : xs.length = ds.length) (h : ∀ (j : Nat) (v : V) (e : PyData), xs[j]? = some v → ds[j]? = some e → R v e) (hx : R x d) : ∀ (j : Nat) (v : V) (e : PyData), (xs ++ [x])[j]? = some v → (ds ++ [d])[j]? = some e → R v e := by
  intro j v e h1 h2
  by_cases hj : j < xs.length
  · rw [List.getElem?_append_left hj] at h1
    rw [List.getElem?_append_left (by omega)] at h2
    exact h j v e h1 h2
  · rw [List.getElem?_append_right (by omega)] at h1
    rw [List.getElem?_append_right (by omega)] at h2
    rw [l] at h1
    rcases hk : j - ds.length with _ | k
    · rw [hk] at h1 h2; cases h1; cases h2; exact hx
    · rw [hk] at h1; cases h1
theorem wIn_mem {w : Str} {ss : List Str} (h : wIn w ss = true) : w ∈ ss := by
  unfold wIn inV at h
  rw [List.any_eq_true] at h
  obtain ⟨y, hy, he⟩ := h
  obtain ⟨x, hx, rfl⟩ := List.mem_map.mp hy
  have e : x = w := eq_of_beq (show (x == w) = true from he)
  rw [← e]; exact hx
theorem two_of {as : List PyData} {g : PyData → PyData → Bool} (r : (match as with | [a, b] => g a b | _ => false) = true) : as.length = 2 := by
  rcases as with _ | ⟨a, _ | ⟨b, _ | ⟨c, as⟩⟩⟩ <;> first | rfl | cases r
theorem here_form {w : Str} {as : List PyData} (r : hereR w as = true) : ∃ f, formS w = some f ∧ f.cps.toList.length = as.length := by
  by_cases h1 : wIn w ["if", "loop"] = true
  · obtain ⟨a, b, c, d, rfl⟩ := hereR_if h1 r
    have hm := wIn_mem h1
    simp only [List.mem_cons, List.not_mem_nil, or_false] at hm
    rcases hm with rfl | rfl <;> exact ⟨"esse", by decide +kernel, by show _ = 4; decide +kernel⟩
  by_cases h2 : w = "local"
  · obtain ⟨a, b, c, d, rfl⟩ := hereR_local h1 h2 r
    subst h2
    exact ⟨"nese", by decide +kernel, by show _ = 4; decide +kernel⟩
  by_cases h3 : wIn w ["call", "uncall"] = true
  · have hl : as.length = 2 := by
      unfold hereR at r
      rw [if_neg h1, if_neg h2, if_pos h3] at r
      rcases as with _ | ⟨a, _ | ⟨b, _ | ⟨c, as⟩⟩⟩ <;> first | rfl | cases r
    have hm := wIn_mem h3
    simp only [List.mem_cons, List.not_mem_nil, or_false] at hm
    rcases hm with rfl | rfl <;> exact ⟨"ct", by decide +kernel, by rw [hl]; decide +kernel⟩
  by_cases h4 : w = "row"
  · obtain ⟨ds, rfl⟩ := hereR_row h4 r
    subst h4
    exact ⟨"r", by decide +kernel, by show _ = 1; decide +kernel⟩
  have r : plainR w as = true := by
    unfold hereR at r
    rw [if_neg h1, if_neg h2, if_neg h3, if_neg h4] at r
    exact r
  by_cases h5 : w = "skip"
  · subst h5
    have hl : as = [] := by
      unfold plainR at r
      rw [if_pos rfl] at r
      simpa using r
    subst hl
    exact ⟨"", by decide +kernel, by decide +kernel⟩
  by_cases h6 : wIn w ["plus", "minus", "mix"] = true
  · have hl : as.length = 2 := by
      unfold plainR at r
      rw [if_neg h5, if_pos h6] at r
      rcases as with _ | ⟨a, _ | ⟨b, _ | ⟨c, as⟩⟩⟩ <;> first | rfl | cases r
    have hm := wIn_mem h6
    simp only [List.mem_cons, List.not_mem_nil, or_false] at hm
    rcases hm with rfl | rfl | rfl <;> exact ⟨"pe", by decide +kernel, by rw [hl]; decide +kernel⟩
  by_cases h7 : wIn w ["times", "turn"] = true
  · have hl : as.length = 2 := by
      unfold plainR at r
      rw [if_neg h5, if_neg h6, if_pos h7] at r
      rcases as with _ | ⟨a, _ | ⟨b, _ | ⟨c, as⟩⟩⟩ <;> first | rfl | cases r
    have hm := wIn_mem h7
    simp only [List.mem_cons, List.not_mem_nil, or_false] at hm
    rcases hm with rfl | rfl <;> exact ⟨"pi", by decide +kernel, by rw [hl]; decide +kernel⟩
  by_cases h8 : w = "swap"
  · have hl : as.length = 2 := by
      unfold plainR at r
      rw [if_neg h5, if_neg h6, if_neg h7, if_pos h8] at r
      rcases as with _ | ⟨a, _ | ⟨b, _ | ⟨c, as⟩⟩⟩ <;> first | rfl | cases r
    subst h8
    exact ⟨"pp", by decide +kernel, by rw [hl]; decide +kernel⟩
  unfold plainR at r
  rw [if_neg h5, if_neg h6, if_neg h7, if_neg h8, Bool.and_eq_true] at r
  obtain ⟨h9, r⟩ := r
  have hl : as.length = 2 := by
    rcases as with _ | ⟨a, _ | ⟨b, _ | ⟨c, as⟩⟩⟩ <;> first | rfl | cases r
  have hm := wIn_mem h9
  simp only [List.mem_cons, List.not_mem_nil, or_false] at hm
  rcases hm with rfl | rfl | rfl | rfl <;> exact ⟨"nn", by decide +kernel, by rw [hl]; decide +kernel⟩
theorem here_not {w : Str} {as : List PyData} (h : ∀ f, formS w = some f → f.cps.toList.length ≠ as.length) : hereR w as = false := by
  cases e : hereR w as with
  | false => rfl
  | true =>
    obtain ⟨f, h1, h2⟩ := here_form e
    exact absurd h2 (h f h1)
/-! what a prefix of the arguments tells -/
theorem argsIn_more {c : Nat} {d : PyData} : ∀ {cs : List Nat} {ds : List PyData} {i : Nat}, cs[i]? = some c → ds[i]? = some d → argsIn (cs.take (i + 1)) (ds.take (i + 1)) = argsIn (cs.take i) (ds.take i) ++ argIn c d
  | [], _, _, h, _ => by cases h
  | _ :: _, [], _, _, h => by cases h
  | c' :: cs, d' :: ds, 0, h1, h2 => by
    cases h1; cases h2
    simp [argsIn]
  | c' :: cs, d' :: ds, i + 1, h1, h2 => by
    rw [List.take_succ_cons, List.take_succ_cons, List.take_succ_cons, List.take_succ_cons, argsIn, argsIn, argsIn_more (i := i) (by simpa using h1) (by simpa using h2), List.append_assoc]
theorem argsOk_at {c : Nat} {d : PyData} : ∀ {cs : List Nat} {ds : List PyData} {i : Nat}, cs[i]? = some c → ds[i]? = some d → okArg c d = false → argsOk cs ds = false
  | [], _, _, h, _, _ => by cases h
  | _ :: _, [], _, _, h, _ => by cases h
  | c' :: cs, d' :: ds, 0, h1, h2, h3 => by
    cases h1; cases h2
    rw [argsOk, h3, Bool.false_and]
  | c' :: cs, d' :: ds, i + 1, h1, h2, h3 => by
    rw [argsOk, argsOk_at (i := i) (by simpa using h1) (by simpa using h2) h3, Bool.and_false]
theorem argsOk_all : ∀ {cs : List Nat} {ds : List PyData}, cs.length = ds.length → (∀ (i c : Nat) (d : PyData), cs[i]? = some c → ds[i]? = some d → okArg c d = true) → argsOk cs ds = true
  | [], [], _, _ => rfl
  | [], _ :: _, h, _ => by cases h
  | _ :: _, [], h, _ => by cases h
  | c :: cs, d :: ds, h, g => by
    rw [argsOk, g 0 c d rfl rfl, argsOk_all (by simpa using h) fun i c' d' h1 h2 => g (i + 1) c' d' (by simpa using h1) (by simpa using h2)]
    rfl
theorem stAll_append : ∀ (a b : List PyData), stAll (a ++ b) = comb (stAll a) (stAll b)
  | [], b => by
    rw [List.nil_append, stAll]
    rcases stAll b with _ | ⟨s, m⟩
    · rfl
    · simp [comb]
  | d :: a, b => by
    rw [List.cons_append, stAll, stAll, stAll_append a b]
    rcases stD d with _ | ⟨s, m⟩ <;> rcases stAll a with _ | ⟨t, n⟩ <;> rcases stAll b with _ | ⟨u, k⟩ <;> simp [comb, Nat.add_assoc, Nat.max_assoc]
theorem stAll_mem {d : PyData} {ds : List PyData} (h : d ∈ ds) (e : stD d = none) : stAll ds = none := by
  obtain ⟨a, b, rfl⟩ := List.append_of_mem h
  rw [stAll_append, stAll, e]
  cases stAll a <;> rfl
theorem argsIn_mem {c : Nat} {d x : PyData} : ∀ {cs : List Nat} {ds : List PyData} {i : Nat}, cs[i]? = some c → ds[i]? = some d → x ∈ argIn c d → x ∈ argsIn cs ds
  | [], _, _, h, _, _ => by cases h
  | _ :: _, [], _, _, h, _ => by cases h
  | c' :: cs, d' :: ds, 0, h1, h2, h3 => by
    cases h1; cases h2
    rw [argsIn]; exact List.mem_append_left _ h3
  | c' :: cs, d' :: ds, i + 1, h1, h2, h3 => by
    rw [argsIn]; exact List.mem_append_right _ (argsIn_mem (i := i) (by simpa using h1) (by simpa using h2) h3)
end BkG
end
section
namespace BkG
open PySem PySem.Spec L2 TL
/-! ### ways to the tuples that stand in a tuple -/
mutual
def tupsD : PyData → Nat
  | .tuple ds => 1 + tupsAll ds
  | _ => 0
def tupsAll : List PyData → Nat
  | [] => 0
  | d :: ds => tupsD d + tupsAll ds
end
theorem tupsAll_append : ∀ (a b : List PyData), tupsAll (a ++ b) = tupsAll a + tupsAll b
  | [], b => by rw [List.nil_append, tupsAll, Nat.zero_add]
  | d :: a, b => by rw [List.cons_append, tupsAll, tupsAll, tupsAll_append a b, Nat.add_assoc]
theorem tupsAll_take {d : PyData} {ds : List PyData} {i : Nat} (h : ds[i]? = some d) : tupsAll (ds.take (i + 1)) = tupsAll (ds.take i) + tupsD d := by
  rw [take_more h, tupsAll_append, tupsAll, tupsAll, Nat.add_zero]
theorem tupsAll_le : ∀ (ds : List PyData) (i : Nat), tupsAll (ds.take i) ≤ tupsAll ds
  | [], i => by simp
  | d :: ds, 0 => by simp [tupsAll]
  | d :: ds, i + 1 => by
    rw [List.take_succ_cons, tupsAll, tupsAll]
    have := tupsAll_le ds i
    omega
theorem tupsD_in {d : PyData} : ∀ {ds : List PyData}, d ∈ ds → tupsD d ≤ tupsAll ds
  | [], h => by cases h
  | e :: ds, h => by
    rw [tupsAll]
    rcases List.mem_cons.mp h with rfl | h
    · omega
    · have := tupsD_in h
      omega
/-- a way that leads to a tuple -/
def wayOk : PyData → List Nat → Prop
  | .tuple _, [] => True
  | .tuple ds, a :: ws => ∃ d, ds[a]? = some d ∧ wayOk d ws
  | _, _ => False
theorem wayOk.tup {d : PyData} {ws : List Nat} (h : wayOk d ws) : ∃ ds, d = .tuple ds := by
  cases d with
  | tuple ds => exact ⟨ds, rfl⟩
  | _ => cases ws <;> exact h.elim
theorem wayOk.cons {ds : List PyData} {a : Nat} {ws : List Nat} {d : PyData} (h1 : ds[a]? = some d) (h2 : wayOk d ws) : wayOk (.tuple ds) (a :: ws) := ⟨d, h1, h2⟩
theorem wayOk.len : ∀ {n : Nat} {d : PyData} {ws : List Nat}, okD n d = true → wayOk d ws → ws.length + 1 ≤ n
  | 0, d, ws, h, hw => by
    obtain ⟨ds, rfl⟩ := hw.tup
    simp [okD] at h
  | n + 1, d, [], h, hw => by simp
  | n + 1, d, a :: ws, h, hw => by
    obtain ⟨ds, rfl⟩ := hw.tup
    obtain ⟨e, he, hw'⟩ := hw
    simp only [okD, Bool.and_eq_true, List.all_eq_true] at h
    have := wayOk.len (h.2 e (List.mem_of_getElem? he)) hw'
    rw [List.length_cons]; omega
def wayV (ws : List Nat) : List V := ws.map fun (k : Nat) => V.int ((k : Nat) : Int)
/-- a list of ways -/
def Ways (H : Hp) (d : PyData) (pts : List Addr) : Prop := ∀ pt ∈ pts, ∃ ws, H pt = some (.tup (wayV ws)) ∧ wayOk d ws ∧ ws.length ≤ 63
theorem Ways.ex {H H' : Hp} {d : PyData} {pts : List Addr} (h : Ways H d pts) (e : Ex H H') : Ways H' d pts := fun pt hp => by
  obtain ⟨ws, h1, h2⟩ := h pt hp
  exact ⟨ws, e _ _ h1, h2⟩
theorem Ways.append {H : Hp} {d : PyData} {a b : List Addr} (h : Ways H d a) (g : Ways H d b) : Ways H d (a ++ b) := fun pt hp => by
  rcases List.mem_append.mp hp with hp | hp
  · exact h pt hp
  · exact g pt hp
def spSpots : Nat → Sp
  | 0 => fun _ _ _ _ => False
  | n + 1 => fun vs H Q _ => ∃ (M : List Addr) (v : V) (ds : List PyData), vs = [v] ∧ Dv M H v (.tuple ds) ∧ fine n (.tuple ds) = true ∧ n ≤ 63 ∧ tupsD (.tuple ds) ≤ 5000 ∧
    ∀ (p : Addr) (pts : List Addr) (H' : Hp), Ex H H' → H' p = some (.lst (pts.map V.ref)) → pts.length = tupsD (.tuple ds) → Ways H' (.tuple ds) pts → H p = none → Q (.ref p) H'
/-- what stands at the end of a way -/
def partD : PyData → List Nat → PyData
  | d, [] => d
  | .tuple ds, a :: ws => (match ds[a]? with | some e => partD e ws | none => .none)
  | _, _ :: _ => .none
/-- something put there -/
def putD : PyData → List Nat → PyData → PyData
  | _, [], x => x
  | .tuple ds, a :: ws, x => (match ds[a]? with | some e => .tuple (ds.take a ++ putD e ws x :: ds.drop (a + 1)) | none => .none)
  | _, _ :: _, _ => .none
theorem partD_cons {ds : List PyData} {a : Nat} {ws : List Nat} {e : PyData} (h : ds[a]? = some e) : partD (.tuple ds) (a :: ws) = partD e ws := by rw [partD, h]
theorem putD_cons {ds : List PyData} {a : Nat} {ws : List Nat} {e x : PyData} (h : ds[a]? = some e) : putD (.tuple ds) (a :: ws) x = .tuple (ds.take a ++ putD e ws x :: ds.drop (a + 1)) := by rw [putD, h]
theorem partD_nil (d : PyData) : partD d [] = d := by cases d <;> rfl
theorem putD_nil (d x : PyData) : putD d [] x = x := by cases d <;> rfl
theorem part_tup : ∀ {ws : List Nat} {d : PyData}, wayOk d ws → ∃ es, partD d ws = .tuple es
  | [], d, h => by
    obtain ⟨ds, rfl⟩ := h.tup
    exact ⟨ds, rfl⟩
  | a :: ws, d, h => by
    obtain ⟨ds, rfl⟩ := h.tup
    obtain ⟨e, he, h'⟩ := h
    rw [partD_cons he]
    exact part_tup h'
theorem part_fine : ∀ {ws : List Nat} {n : Nat} {d : PyData}, fine n d = true → wayOk d ws → fine (n - ws.length) (partD d ws) = true
  | [], n, d, hf, h => by rw [partD_nil]; exact hf
  | a :: ws, n, d, hf, h => by
    obtain ⟨ds, rfl⟩ := h.tup
    obtain ⟨e, he, h'⟩ := h
    obtain ⟨m, rfl⟩ := fine.pos hf
    rw [partD_cons he, List.length_cons, show m + 1 - (ws.length + 1) = m - ws.length by omega]
    exact part_fine (fine.tup_in hf (List.mem_of_getElem? he)) h'
/-! lengths -/
mutual
def thinD (b : Nat) : PyData → Bool
  | .list xs => decide (xs.length ≤ b) && thinAll b xs
  | .tuple xs => decide (xs.length ≤ b) && thinAll b xs
  | _ => true
def thinAll (b : Nat) : List PyData → Bool
  | [] => true
  | d :: ds => thinD b d && thinAll b ds
end
theorem thinAll_iff {b : Nat} : ∀ {ds : List PyData}, thinAll b ds = true ↔ ∀ d ∈ ds, thinD b d = true
  | [] => by simp [thinAll]
  | d :: ds => by rw [thinAll, Bool.and_eq_true, thinAll_iff (ds := ds)]; simp
theorem thin_tup {b : Nat} {ds : List PyData} : thinD b (.tuple ds) = true ↔ ds.length ≤ b ∧ ∀ d ∈ ds, thinD b d = true := by rw [thinD, Bool.and_eq_true, decide_eq_true_eq, thinAll_iff]
theorem thin_lst {b : Nat} {ds : List PyData} : thinD b (.list ds) = true ↔ ds.length ≤ b ∧ ∀ d ∈ ds, thinD b d = true := by rw [thinD, Bool.and_eq_true, decide_eq_true_eq, thinAll_iff]
theorem thin_mono {b c : Nat} (l : b ≤ c) : ∀ (n : Nat) (d : PyData), okD n d = true → thinD b d = true → thinD c d = true
  | _, .none, _, _ => rfl
  | _, .bool _, _, _ => rfl
  | _, .int _, _, _ => rfl
  | _, .str _, _, _ => rfl
  | _, .dict _, _, _ => rfl
  | 0, .list _, h, _ => by simp [okD] at h
  | 0, .tuple _, h, _ => by simp [okD] at h
  | n + 1, .list ds, h, t => by
    simp only [okD, Bool.and_eq_true, List.all_eq_true] at h
    rw [thin_lst] at t ⊢
    exact ⟨by omega, fun d hd => thin_mono l n d (h.2 d hd) (t.2 d hd)⟩
  | n + 1, .tuple ds, h, t => by
    simp only [okD, Bool.and_eq_true, List.all_eq_true] at h
    rw [thin_tup] at t ⊢
    exact ⟨by omega, fun d hd => thin_mono l n d (h.2 d hd) (t.2 d hd)⟩
theorem part_thin {b : Nat} : ∀ {ws : List Nat} {d : PyData}, thinD b d = true → wayOk d ws → thinD b (partD d ws) = true
  | [], d, hf, h => by rw [partD_nil]; exact hf
  | a :: ws, d, hf, h => by
    obtain ⟨ds, rfl⟩ := h.tup
    obtain ⟨e, he, h'⟩ := h
    rw [partD_cons he]
    exact part_thin ((thin_tup.mp hf).2 e (List.mem_of_getElem? he)) h'
theorem put_mem {ds : List PyData} {a : Nat} {e x y : PyData} (h : y ∈ ds.take a ++ x :: ds.drop (a + 1)) : y ∈ ds ∨ y = x := by
  rcases List.mem_append.mp h with h | h
  · exact .inl (List.mem_of_mem_take h)
  · rcases List.mem_cons.mp h with h | h
    · exact .inr h
    · exact .inl (List.mem_of_mem_drop h)
theorem put_len {ds : List PyData} {a : Nat} {e x : PyData} (h : ds[a]? = some e) : (ds.take a ++ x :: ds.drop (a + 1)).length = ds.length := by
  have hi := (List.getElem?_eq_some_iff.mp h).1
  rw [List.length_append, List.length_cons, List.length_take, List.length_drop]
  omega
theorem put_fine : ∀ {ws : List Nat} {n : Nat} {d x : PyData}, fine n d = true → wayOk d ws → fine (n - ws.length) x = true → fine n (putD d ws x) = true
  | [], n, d, x, hf, h, hx => by rw [putD_nil]; exact hx
  | a :: ws, n, d, x, hf, h, hx => by
    obtain ⟨ds, rfl⟩ := h.tup
    obtain ⟨e, he, h'⟩ := h
    obtain ⟨m, rfl⟩ := fine.pos hf
    rw [List.length_cons, show m + 1 - (ws.length + 1) = m - ws.length by omega] at hx
    rw [putD_cons he]
    refine fine.tup (by rw [put_len he]; exact fine.len hf) fun y hy => ?_
    rcases put_mem (e := e) hy with hy | rfl
    · exact fine.tup_in hf hy
    · exact put_fine (fine.tup_in hf (List.mem_of_getElem? he)) h' hx
theorem put_thin {b : Nat} : ∀ {ws : List Nat} {d x : PyData}, thinD b d = true → wayOk d ws → thinD b x = true → thinD b (putD d ws x) = true
  | [], d, x, hf, h, hx => by rw [putD_nil]; exact hx
  | a :: ws, d, x, hf, h, hx => by
    obtain ⟨ds, rfl⟩ := h.tup
    obtain ⟨e, he, h'⟩ := h
    rw [putD_cons he]
    rw [thin_tup] at hf
    refine thin_tup.mpr ⟨by rw [put_len he]; exact hf.1, fun y hy => ?_⟩
    rcases put_mem (e := e) hy with hy | rfl
    · exact hf.2 y hy
    · exact put_thin (hf.2 e (List.mem_of_getElem? he)) h' hx
theorem put_tups : ∀ {ws : List Nat} {d x : PyData}, wayOk d ws → tupsD (putD d ws x) + tupsD (partD d ws) = tupsD d + tupsD x
  | [], d, x, h => by rw [putD_nil, partD_nil, Nat.add_comm]
  | a :: ws, d, x, h => by
    obtain ⟨ds, rfl⟩ := h.tup
    obtain ⟨e, he, h'⟩ := h
    rw [putD_cons he, partD_cons he, tupsD, tupsD, tupsAll_append, tupsAll]
    have h1 := put_tups (x := x) h'
    have h2 : tupsAll ds = tupsAll (ds.take a) + (tupsD e + tupsAll (ds.drop (a + 1))) := by
      have hi := (List.getElem?_eq_some_iff.mp he).1
      have e1 : ds = ds.take a ++ e :: ds.drop (a + 1) := by
        have h3 := (List.getElem?_eq_some_iff.mp he).2
        rw [← h3, ← List.drop_eq_getElem_cons hi, List.take_append_drop]
      calc tupsAll ds = tupsAll (ds.take a ++ e :: ds.drop (a + 1)) := by rw [← e1]
        _ = _ := by rw [tupsAll_append, tupsAll]
    omega
theorem tupsAll_take_le (ds : List PyData) (i : Nat) : tupsAll (ds.take i) ≤ tupsAll ds := tupsAll_le ds i
theorem tupsAll_drop_le (ds : List PyData) (i : Nat) : tupsAll (ds.drop i) ≤ tupsAll ds := by
  have : tupsAll ds = tupsAll (ds.take i) + tupsAll (ds.drop i) := by rw [← tupsAll_append, List.take_append_drop]
  omega
def spPartAt : Sp := fun vs H Q _ => ∃ (M : List Addr) (v : V) (d : PyData) (pw : Addr) (ws : List Nat), vs = [v, .ref pw] ∧ Dv M H v d ∧ H pw = some (.tup (wayV ws)) ∧ wayOk d ws ∧
  ∀ v', Dv M H v' (partD d ws) → Q v' H
def spPutAt : Nat → Sp
  | 0 => fun _ _ _ _ => False
  | n + 1 => fun vs H Q _ => ∃ (M : List Addr) (v x : V) (d e : PyData) (pw : Addr) (ws : List Nat), vs = [v, .ref pw, x] ∧ Dv M H v d ∧ fine 63 d = true ∧ Dv M H x e ∧ H pw = some (.tup (wayV ws)) ∧ wayOk d ws ∧ ws.length ≤ n ∧
    ∀ v' H', Ex H H' → Dv M H' v' (putD d ws e) → Q v' H'
/-- values changed somewhere -/
def spNearS : Sp := fun vs H Q _ => ∃ (D L : Addr) (M : List Addr) (v : V) (d : PyData) (n b : Nat), vs = [.ref D, v] ∧ (∀ a ∈ M, H a ≠ none) ∧ Dv (D :: L :: M) H v d ∧ fine n d = true ∧ n ≤ 62 ∧ thinD b d = true ∧ b ≤ 900 ∧ tupsD d ≤ 5000 ∧ Deal H D L ∧
  ∀ (v : V) (d' : PyData) (H' : Hp), Dv (D :: L :: M) H' v d' → fine n d' = true → thinD (b + 1) d' = true → tupsD d' ≤ tupsD d → Deal H' D L → Kp [D, L] H H' → Q v H'
theorem dv_way {M : List Addr} {H : Hp} {p : Addr} {ws : List Nat} (h : H p = some (.tup (wayV ws))) : Dv M H (.ref p) (.tuple (ws.map fun (k : Nat) => PyData.int ((k : Nat) : Int))) := by
  refine .tup h (by simp [wayV]) fun i v d h1 h2 => ?_
  obtain ⟨x, e1, rfl⟩ := map_some h1
  obtain ⟨y, e2, rfl⟩ := map_some h2
  rw [e1] at e2; cases e2; exact .int _
theorem nice_way {ws : List Nat} {n : Nat} (h : ws.length ≤ 63) : nice (n + 1) (.tuple (ws.map fun (k : Nat) => PyData.int ((k : Nat) : Int))) = true := by
  refine nice.tup (by rw [List.length_map]; omega) fun d hd => ?_
  obtain ⟨k, hk, rfl⟩ := List.mem_map.mp hd
  cases n <;> rfl
theorem way_empty {ws : List Nat} : PyData.eqv (.tuple (ws.map fun (k : Nat) => PyData.int ((k : Nat) : Int))) (.tuple []) = ws.isEmpty := by
  rw [eqv_nilT]; cases ws <;> rfl
theorem Dv.kpDL' {D L : Addr} {M : List Addr} {H H' : Hp} {v : V} {d : PyData} (h : Dv (D :: L :: M) H v d) (k : Kp [D, L] H H') (dl : Deal H D L) : Dv (D :: L :: M) H' v d := h.keep ⟨Kt.of_kp k dl, fun a xs hx n => k a _ hx (fun z => n (by simp only [List.mem_cons, List.not_mem_nil, or_false] at z ⊢; rcases z with z | z <;> simp [z]))⟩
theorem kp_alloc {D L a : Addr} {H H' : Hp} (k : Kp [D, L] H H') (d : Deal H' D L) (h : H a ≠ none) : H' a ≠ none := by
  intro z
  cases ha : H a with
  | none => exact h ha
  | some o =>
    obtain ⟨n1, n2⟩ := d.fresh z
    have := k a o ha (by simp [n1, n2])
    rw [z] at this; cases this
theorem cut_from2 {xs : List V} {k : Nat} : cutV xs (some (k : Int)) none = xs.drop k := by
  unfold cutV
  rw [HT.sIx_none, HT.sIx_nat, Nat.min_def]
  split
  · exact List.take_of_length_le (by rw [List.length_drop]; omega)
  · rw [List.drop_of_length_le (by omega), List.drop_of_length_le (by omega)]; simp
theorem cut_rel {M : List Addr} {H : Hp} {xs : List V} {es : List PyData} (r : Rel M H xs es) (lo hi : Option Int) : ∃ i j, Rel M H (cutV xs lo hi) ((es.drop i).take j) := ⟨_, _, (r.drop _).take _⟩
theorem sub_props {n b i j : Nat} {es : List PyData} (hf : fine n (.tuple es) = true) (ht : thinD b (.tuple es) = true) : fine n (.tuple ((es.drop i).take j)) = true ∧ thinD (b + 1) (.tuple ((es.drop i).take j)) = true ∧ tupsD (.tuple ((es.drop i).take j)) ≤ tupsD (.tuple es) := by
  obtain ⟨m, rfl⟩ := fine.pos hf
  have hl := fine.len hf
  have hm : ∀ d ∈ (es.drop i).take j, d ∈ es := fun d hd => List.mem_of_mem_drop (List.mem_of_mem_take hd)
  have hlen : ((es.drop i).take j).length ≤ es.length := by rw [List.length_take, List.length_drop]; omega
  rw [thin_tup] at ht
  refine ⟨fine.tup (by omega) fun d hd => fine.tup_in hf (hm d hd), thin_tup.mpr ⟨by omega, fun d hd => thin_mono (Nat.le_succ b) m d (nice.ok (fine.nice (fine.tup_in hf (hm d hd)))) (ht.2 d (hm d hd))⟩, ?_⟩
  rw [tupsD, tupsD]
  have h1 := tupsAll_take_le (es.drop i) j
  have h2 := tupsAll_drop_le es i
  omega
theorem part_more {n b : Nat} {es : List PyData} {x : PyData} (hf : fine n (.tuple es) = true) (ht : thinD b (.tuple es) = true) (hb : b ≤ 900) (hx : fine 0 x = true) (hx2 : tupsD x = 0) (hx3 : ∀ c, thinD c x = true) : fine n (.tuple (es ++ [x])) = true ∧ thinD (b + 1) (.tuple (es ++ [x])) = true ∧ tupsD (.tuple (es ++ [x])) ≤ tupsD (.tuple es) := by
  obtain ⟨m, rfl⟩ := fine.pos hf
  rw [thin_tup] at ht
  refine ⟨fine.tup (by rw [List.length_append]; simp; omega) fun d hd => ?_, thin_tup.mpr ⟨by rw [List.length_append]; simp; omega, fun d hd => ?_⟩, ?_⟩
  · rcases List.mem_append.mp hd with hd | hd
    · exact fine.tup_in hf hd
    · rw [List.mem_singleton.mp hd]; exact fine.mono hx (Nat.zero_le _)
  · rcases List.mem_append.mp hd with hd | hd
    · exact thin_mono (Nat.le_succ b) m d (nice.ok (fine.nice (fine.tup_in hf hd))) (ht.2 d hd)
    · rw [List.mem_singleton.mp hd]; exact hx3 _
  · rw [tupsD, tupsD, tupsAll_append, tupsAll, tupsAll, hx2]; omega
theorem part_second {n b : Nat} {es : List PyData} {x : PyData} (hf : fine n (.tuple es) = true) (ht : thinD b (.tuple es) = true) (hb : b ≤ 900) (hx : fine 0 x = true) (hx2 : tupsD x = 0) (hx3 : ∀ c, thinD c x = true) : fine n (.tuple (es.take 1 ++ [x] ++ es.drop 2)) = true ∧ thinD (b + 1) (.tuple (es.take 1 ++ [x] ++ es.drop 2)) = true ∧ tupsD (.tuple (es.take 1 ++ [x] ++ es.drop 2)) ≤ tupsD (.tuple es) := by
  obtain ⟨m, rfl⟩ := fine.pos hf
  rw [thin_tup] at ht
  have hlen : (es.take 1 ++ [x] ++ es.drop 2).length ≤ es.length + 1 := by rw [List.length_append, List.length_append, List.length_take, List.length_drop, List.length_singleton]; omega
  have hm : ∀ d ∈ es.take 1 ++ [x] ++ es.drop 2, d ∈ es ∨ d = x := fun d hd => by
    rcases List.mem_append.mp hd with hd | hd
    · rcases List.mem_append.mp hd with hd | hd
      · exact .inl (List.mem_of_mem_take hd)
      · exact .inr (List.mem_singleton.mp hd)
    · exact .inl (List.mem_of_mem_drop hd)
  refine ⟨fine.tup (by omega) fun d hd => ?_, thin_tup.mpr ⟨by omega, fun d hd => ?_⟩, ?_⟩
  · rcases hm d hd with hd | rfl
    · exact fine.tup_in hf hd
    · exact fine.mono hx (Nat.zero_le _)
  · rcases hm d hd with hd | rfl
    · exact thin_mono (Nat.le_succ b) m d (nice.ok (fine.nice (fine.tup_in hf hd))) (ht.2 d hd)
    · exact hx3 _
  · rw [tupsD, tupsD, tupsAll_append, tupsAll_append, tupsAll, tupsAll, hx2]
    have h1 : tupsAll es = tupsAll (es.take 1) + tupsAll (es.drop 1) := by rw [← tupsAll_append, List.take_append_drop]
    have h2 : tupsAll (es.drop 2) ≤ tupsAll (es.drop 1) := by
      have := tupsAll_drop_le (es.drop 1) 1
      rwa [List.drop_drop] at this
    omega
theorem part_list {n b : Nat} {es : List PyData} (hf : fine n (.tuple es) = true) (ht : thinD b (.tuple es) = true) : fine n (.list es) = true ∧ thinD (b + 1) (.list es) = true ∧ tupsD (.list es) ≤ tupsD (.tuple es) := by
  obtain ⟨m, rfl⟩ := fine.pos hf
  rw [thin_tup] at ht
  exact ⟨fine.lst (fine.len hf) fun d hd => fine.tup_in hf hd, thin_lst.mpr ⟨by omega, fun d hd => thin_mono (Nat.le_succ b) m d (nice.ok (fine.nice (fine.tup_in hf hd))) (ht.2 d hd)⟩, Nat.zero_le _⟩
end BkG
end
section
namespace BkG
open PySem PySem.Spec L2 TL
/-! ### expressions and statements drawn -/
/-- at most n deep, nothing longer than 20, at most t tuples -/
def Fit (n t : Nat) (d : PyData) : Prop := fine n d = true ∧ thinD 20 d = true ∧ tupsD d ≤ t
theorem Fit.mono {n m t u : Nat} {d : PyData} (h : Fit n t d) (l : n ≤ m) (k : t ≤ u) : Fit m u d := ⟨fine.mono h.1 l, h.2.1, Nat.le_trans h.2.2 k⟩
theorem Fit.str {s : Str} (h : fine 0 (.str s) = true) : Fit 0 0 (.str s) := ⟨h, rfl, Nat.le_refl _⟩
theorem Fit.s {n : Nat} {s : Str} (h : fine 0 (.str s) = true) : Fit n 0 (.str s) := (Fit.str h).mono (Nat.zero_le _) (Nat.le_refl _)
theorem Fit.i {n : Nat} (z : Int) : Fit n 0 (.int z) := ⟨by cases n <;> rfl, rfl, Nat.le_refl _⟩
theorem Fit.int (z : Int) : Fit 0 0 (.int z) := ⟨rfl, rfl, Nat.le_refl _⟩
inductive Fits (n : Nat) : List PyData → List Nat → Prop
  | nil : Fits n [] []
  | cons {d : PyData} {t : Nat} {ds : List PyData} {ts : List Nat} (h : Fit n t d) (r : Fits n ds ts) : Fits n (d :: ds) (t :: ts)
theorem tupsAll_fit {n : Nat} : ∀ {ds : List PyData} {ts : List Nat}, Fits n ds ts → tupsAll ds ≤ ts.sum
  | _, _, .nil => Nat.le_refl _
  | _, _, .cons h r => by
    rw [tupsAll, List.sum_cons]
    exact Nat.add_le_add h.2.2 (tupsAll_fit r)
theorem forall_mem {n : Nat} : ∀ {ds : List PyData} {ts : List Nat}, Fits n ds ts → ∀ d ∈ ds, ∃ t, Fit n t d
  | _, _, .nil => fun d h => by cases h
  | _, _, .cons h r => fun d hd => by
    rcases List.mem_cons.mp hd with rfl | hd
    · exact ⟨_, h⟩
    · exact forall_mem r d hd
theorem Fit.tup {n t : Nat} {ds : List PyData} {ts : List Nat} (l : ds.length ≤ 20) (h : Fits n ds ts) (ht : 1 + ts.sum ≤ t) : Fit (n + 1) t (.tuple ds) :=
  ⟨fine.tup (by omega) fun d hd => by obtain ⟨t, h⟩ := forall_mem h d hd; exact h.1, thin_tup.mpr ⟨l, fun d hd => by obtain ⟨t, h⟩ := forall_mem h d hd; exact h.2.1⟩, by
    rw [tupsD]
    have := tupsAll_fit h
    omega⟩
theorem Fit.two {n t a b : Nat} {x y : PyData} (hx : Fit n a x) (hy : Fit n b y) (ht : 1 + a + b ≤ t) : Fit (n + 1) t (.tuple [x, y]) :=
  .tup (Nat.le_of_ble_eq_true rfl) (.cons hx (.cons hy .nil)) (by simp; omega)
theorem Fit.three {n t a b c : Nat} {x y z : PyData} (hx : Fit n a x) (hy : Fit n b y) (hz : Fit n c z) (ht : 1 + a + b + c ≤ t) : Fit (n + 1) t (.tuple [x, y, z]) :=
  .tup (Nat.le_of_ble_eq_true rfl) (.cons hx (.cons hy (.cons hz .nil))) (by simp; omega)
theorem Fit.five {n t a b c e f : Nat} {x y z u v : PyData} (hx : Fit n a x) (hy : Fit n b y) (hz : Fit n c z) (hu : Fit n e u) (hv : Fit n f v) (ht : 1 + a + b + c + e + f ≤ t) : Fit (n + 1) t (.tuple [x, y, z, u, v]) :=
  .tup (Nat.le_of_ble_eq_true rfl) (.cons hx (.cons hy (.cons hz (.cons hu (.cons hv .nil))))) (by simp; omega)
def spAnyE : Nat → Sp
  | 0 => fun _ _ _ _ => False
  | n + 1 => fun vs H Q _ => ∃ (D L : Addr) (k : Nat), vs = [.ref D, .int k] ∧ Deal H D L ∧ 1 ≤ k ∧ k ≤ n + 1 ∧ n ≤ 60 ∧
    ∀ (v : V) (d : PyData) (H' : Hp), (∀ M, Dv M H' v d) → Fit k k d → Deal H' D L → Kp [D, L] H H' → Q v H'
theorem dv_tup2 {H : Hp} {p : Addr} {a b : V} {d e : PyData} (h : H p = some (.tup [a, b])) (ha : ∀ M, Dv M H a d) (hb : ∀ M, Dv M H b e) : ∀ M, Dv M H (.ref p) (.tuple [d, e]) := fun M => ((Rel.one (hb M)).cons (ha M)).tup h
theorem dv_tup3 {H : Hp} {p : Addr} {a b c : V} {d e f : PyData} (h : H p = some (.tup [a, b, c])) (ha : ∀ M, Dv M H a d) (hb : ∀ M, Dv M H b e) (hc : ∀ M, Dv M H c f) : ∀ M, Dv M H (.ref p) (.tuple [d, e, f]) := fun M => (((Rel.one (hc M)).cons (hb M)).cons (ha M)).tup h
theorem dv_tup5 {H : Hp} {p : Addr} {a b c x y : V} {d e f g h' : PyData} (h : H p = some (.tup [a, b, c, x, y])) (ha : ∀ M, Dv M H a d) (hb : ∀ M, Dv M H b e) (hc : ∀ M, Dv M H c f) (hx : ∀ M, Dv M H x g) (hy : ∀ M, Dv M H y h') : ∀ M, Dv M H (.ref p) (.tuple [d, e, f, g, h']) :=
  fun M => (((((Rel.one (hy M)).cons (hx M)).cons (hc M)).cons (hb M)).cons (ha M)).tup h
theorem all_ex {H H' : Hp} {v : V} {d : PyData} (h : ∀ M, Dv M H v d) (e : Ex H H') : ∀ M, Dv M H' v d := fun M => (h M).ex e
theorem all_kp {H H' : Hp} {D L : Addr} {v : V} {d : PyData} (h : ∀ M, Dv M H v d) (k : Kp [D, L] H H') (dl : Deal H D L) : ∀ M, Dv M H' v d := Dv.allKt (Kt.of_kp k dl) d v h
def tT : Nat → Nat
  | 0 => 11
  | n + 1 => 2 + 3 * tT n
theorem tT_ge : ∀ n, 11 ≤ tT n
  | 0 => Nat.le_refl _
  | n + 1 => by rw [tT]; have := tT_ge n; omega
def spAnyS : Nat → Sp
  | 0 => fun _ _ _ _ => False
  | n + 1 => fun vs H Q _ => ∃ (D L : Addr) (k : Nat), vs = [.ref D, .int k] ∧ Deal H D L ∧ k ≤ n ∧ n ≤ 3 ∧
    ∀ (v : V) (d : PyData) (H' : Hp), (∀ M, Dv M H' v d) → Fit (6 + 2 * k) (tT k) d → Deal H' D L → Kp [D, L] H H' → Q v H'
/-- a drawn value without lists -/
def Ob (H : Hp) (n t : Nat) (v : V) (d : PyData) : Prop := (∀ M, Dv M H v d) ∧ Fit n t d
theorem Ob.kt {H H' : Hp} {n t : Nat} {v : V} {d : PyData} (h : Ob H n t v d) (k : Kt H H') : Ob H' n t v d := ⟨Dv.allKt k d v h.1, h.2⟩
theorem Ob.mono {H : Hp} {n m t u : Nat} {v : V} {d : PyData} (h : Ob H n t v d) (l : n ≤ m) (k : t ≤ u) : Ob H m u v d := ⟨h.1, h.2.mono l k⟩
theorem Ob.s {H : Hp} {n : Nat} {s : Str} (h : fine 0 (.str s) = true) : Ob H n 0 (.str s) (.str s) := ⟨fun _ => .str _, .s h⟩
theorem Ob.i {H : Hp} {n : Nat} (z : Int) : Ob H n 0 (.int z) (.int z) := ⟨fun _ => .int _, .i z⟩
theorem Ob.two {H : Hp} {n t s u : Nat} {p : Addr} {a b : V} {d e : PyData} (h : H p = some (.tup [a, b])) (ha : Ob H n s a d) (hb : Ob H n u b e) (ht : 1 + s + u ≤ t) : Ob H (n + 1) t (.ref p) (.tuple [d, e]) := ⟨dv_tup2 h ha.1 hb.1, .two ha.2 hb.2 ht⟩
theorem Ob.three {H : Hp} {n t s u w : Nat} {p : Addr} {a b c : V} {d e f : PyData} (h : H p = some (.tup [a, b, c])) (ha : Ob H n s a d) (hb : Ob H n u b e) (hc : Ob H n w c f) (ht : 1 + s + u + w ≤ t) : Ob H (n + 1) t (.ref p) (.tuple [d, e, f]) := ⟨dv_tup3 h ha.1 hb.1 hc.1, .three ha.2 hb.2 hc.2 ht⟩
theorem Ob.five {H : Hp} {n t s u w j k : Nat} {p : Addr} {a b c x y : V} {d e f g i : PyData} (h : H p = some (.tup [a, b, c, x, y])) (ha : Ob H n s a d) (hb : Ob H n u b e) (hc : Ob H n w c f) (hx : Ob H n j x g) (hy : Ob H n k y i) (ht : 1 + s + u + w + j + k ≤ t) : Ob H (n + 1) t (.ref p) (.tuple [d, e, f, g, i]) :=
  ⟨dv_tup5 h ha.1 hb.1 hc.1 hx.1 hy.1, .five ha.2 hb.2 hc.2 hx.2 hy.2 ht⟩
def Obs (H : Hp) (n t : Nat) (ys : List V) : Prop := ∀ y ∈ ys, ∃ d, Ob H n t y d
theorem Obs.kt {H H' : Hp} {n t : Nat} {ys : List V} (h : Obs H n t ys) (k : Kt H H') : Obs H' n t ys := fun y hy => let ⟨d, o⟩ := h y hy; ⟨d, o.kt k⟩
theorem Obs.nil {H : Hp} {n t : Nat} : Obs H n t [] := fun y hy => by cases hy
theorem Obs.cons {H : Hp} {n t : Nat} {y : V} {d : PyData} {ys : List V} (h : Ob H n t y d) (r : Obs H n t ys) : Obs H n t (y :: ys) := fun z hz => by
  rcases List.mem_cons.mp hz with rfl | hz
  · exact ⟨d, h⟩
  · exact r z hz
theorem Obs.append {H : Hp} {n t : Nat} {ys zs : List V} (h : Obs H n t ys) (r : Obs H n t zs) : Obs H n t (ys ++ zs) := fun z hz => by
  rcases List.mem_append.mp hz with hz | hz
  · exact h z hz
  · exact r z hz
theorem obs_rel {H : Hp} {n t : Nat} : ∀ {ys : List V}, Obs H n t ys → ∃ ds : List PyData, (∀ M, Rel M H ys ds) ∧ (∀ d ∈ ds, Fit n t d) ∧ ds.length = ys.length
  | [], _ => ⟨[], fun _ => Rel.nil, (fun d h => absurd h List.not_mem_nil), rfl⟩
  | y :: ys, h => by
    obtain ⟨ds, h1, h2, h3⟩ := obs_rel (ys := ys) fun z hz => h z (List.mem_cons_of_mem _ hz)
    obtain ⟨d, o⟩ := h y (by simp)
    exact ⟨d :: ds, fun M => (h1 M).cons (o.1 M), fun e he => by
      rcases List.mem_cons.mp he with rfl | he
      · exact o.2
      · exact h2 e he, by simp [h3]⟩
theorem tupsAll_len {n t : Nat} : ∀ {ds : List PyData}, (∀ d ∈ ds, Fit n t d) → tupsAll ds ≤ ds.length * t
  | [], _ => by simp [tupsAll]
  | d :: ds, h => by
    rw [tupsAll, List.length_cons, Nat.succ_mul]
    have h1 := (h d (by simp)).2.2
    have h2 := tupsAll_len (ds := ds) fun e he => h e (by simp [he])
    omega
theorem Obs.tup {H : Hp} {n t u : Nat} {p : Addr} {ys : List V} (h : H p = some (.tup ys)) (o : Obs H n t ys) (l : ys.length ≤ 20) (ht : 1 + ys.length * t ≤ u) : ∃ d, Ob H (n + 1) u (.ref p) d := by
  obtain ⟨ds, h1, h2, h3⟩ := obs_rel o
  refine ⟨.tuple ds, fun M => (h1 M).tup h, fine.tup (by omega) fun d hd => (h2 d hd).1, thin_tup.mpr ⟨by omega, fun d hd => (h2 d hd).2.1⟩, ?_⟩
  rw [tupsD]
  have := tupsAll_len h2
  rw [h3] at this
  omega
theorem spOf_obs {E : XK} {H : Hp} {Q : VK} {D L l : Addr} {n t : Nat} {ys : List V} (hd : Deal H D L) (hl : H l = some (.lst ys)) (n1 : l ≠ D) (n2 : l ≠ L) (h0 : 0 < ys.length) (h9 : ys.length ≤ 90000) (o : Obs H n t ys)
    (q : ∀ (v : V) (d : PyData) (H' : Hp), Ob H' n t v d → Deal H' D L → Kp [D, L] H H' → Kt H H' → Q v H') : spOf [.ref D, .ref l] H Q E :=
  ⟨D, L, l, ys, rfl, hd, hl, n1, n2, h0, h9, fun i x H' hx d' k' => by
    obtain ⟨d, ob⟩ := o x (List.mem_of_getElem? hx)
    exact q x d H' (ob.kt (Kt.of_kp k' hd)) d' k' (Kt.of_kp k' hd)⟩
theorem spOf_strs {E : XK} {H : Hp} {Q : VK} {D L l : Addr} {ss : List Str} (hd : Deal H D L) (hl : H l = some (.lst (ss.map V.str))) (n1 : l ≠ D) (n2 : l ≠ L) (h0 : 0 < ss.length) (h9 : ss.length ≤ 90000) (hf : ∀ s ∈ ss, fine 0 (.str s) = true)
    (q : ∀ (s : Str) (H' : Hp), s ∈ ss → fine 0 (.str s) = true → Deal H' D L → Kp [D, L] H H' → Kt H H' → Q (.str s) H') : spOf [.ref D, .ref l] H Q E :=
  ⟨D, L, l, _, rfl, hd, hl, n1, n2, by rw [List.length_map]; exact h0, by rw [List.length_map]; exact h9, fun i x H' hx d' k' => by
    obtain ⟨s, hs, rfl⟩ := map_some hx
    have hm := List.mem_of_getElem? hs
    exact q s H' hm (hf s hm) d' k' (Kt.of_kp k' hd)⟩
theorem r_repL {l : Addr} {k : Int} {xs : List V} {H : Hp} {Q : VK} (h : H l = some (.lst xs)) (h1 : -(2 ^ 63) ≤ k) (h2 : k < 2 ^ 63) (hz : xs.length * k.toNat ≤ 100000) (q : ∀ p H', H p = none → Ex H H' → H' p = some (.lst (List.replicate k.toNat xs).flatten) → Q (.ref p) H') : rRep (.ref l) (.int k) H Q :=
  ⟨l, k, xs, rfl, rfl, h, h1, h2, by rw [sizeLine_eq]; omega, fun p hp => q p _ hp (Ex.new hp) upd_same⟩
theorem spOf_ints {E : XK} {H : Hp} {Q : VK} {D L l : Addr} {zs : List Int} (hd : Deal H D L) (hl : H l = some (.lst (zs.map V.int))) (n1 : l ≠ D) (n2 : l ≠ L) (h0 : 0 < zs.length) (h9 : zs.length ≤ 90000)
    (q : ∀ (z : Int) (H' : Hp), z ∈ zs → Deal H' D L → Kp [D, L] H H' → Kt H H' → Q (.int z) H') : spOf [.ref D, .ref l] H Q E :=
  ⟨D, L, l, _, rfl, hd, hl, n1, n2, by rw [List.length_map]; exact h0, by rw [List.length_map]; exact h9, fun i x H' hx d' k' => by
    obtain ⟨s, hs, rfl⟩ := map_some hx
    exact q s H' (List.mem_of_getElem? hs) d' k' (Kt.of_kp k' hd)⟩
theorem dv_rep1 {H : Hp} {p : Addr} {n : Nat} {v : V} {d : PyData} (h : H p = some (.tup (List.replicate n v))) (hv : ∀ M, Dv M H v d) : ∀ M, Dv M H (.ref p) (.tuple (List.replicate n d)) := fun M => .tup h (by simp) fun i x e h1 h2 => by
  have a1 := (List.mem_replicate.mp (List.mem_of_getElem? h1)).2
  have a2 := (List.mem_replicate.mp (List.mem_of_getElem? h2)).2
  rw [a1, a2]; exact hv M
theorem fine_rep {n k : Nat} {d : PyData} (h : fine n d = true) (hk : k ≤ 1000) : fine (n + 1) (.tuple (List.replicate k d)) = true := fine.tup (by simpa using hk) fun e he => by rw [(List.mem_replicate.mp he).2]; exact h
theorem dv_blsV {H : Hp} {p : Addr} {bs : List Bool} (h : H p = some (.lst (bs.map V.bl))) : Dv [] H (.ref p) (.list (bs.map PyData.bool)) := .lst h (by simp) (by simp) fun i v d h1 h2 => by
  obtain ⟨x, e1, rfl⟩ := map_some h1
  obtain ⟨y, e2, rfl⟩ := map_some h2
  rw [e1] at e2; cases e2; exact .bl x
theorem smD3 : ∀ a b c : Bool, smD (.list ([a, b, c].map PyData.bool)) (.list ([a, b, c].map PyData.bool)) = true := by decide
end BkG
end
section
/-! ### sorted: tuples that begin with the same text and an unlike one -/
namespace Srt
open PySem PySem.Spec PyProof.Rows
section
variable {prog : Program} {w : World} {A : Around} {E : Value → Shared → Prop} {s : Shared}
def IsFT (h : Heap) (v : Value) (c z : Str) : Prop := ∃ a o t u x y n, v = .ref a ∧ h.get? a = some o ∧ o.cls = .type "tuple" ∧ o.data = .seq #[.str c t, .str z u, x, y] n
theorem IsFT.keeps {h h' : Heap} {v : Value} {c z : Str} (p : IsFT h v c z) (k : ∀ b o, h.get? b = some o → o.cls = .type "tuple" → h'.get? b = some o) : IsFT h' v c z := by
  obtain ⟨a, o, t, u, x, y, n, e, ho, hc, hd⟩ := p
  exact ⟨a, o, t, u, x, y, n, e, k _ _ ho hc, hc, hd⟩
theorem ft_tot {c : Str} {vs : List Value} (hp : ∀ v ∈ vs, ∃ z, IsFT s.heap v c z) (hu : ∀ v ∈ vs, ∀ v' ∈ vs, ∀ z, IsFT s.heap v c z → IsFT s.heap v' c z → v = v') : Tot prog w A s (tuples' true) (fun p => p.1 ∈ vs) := by
  intro p q hm hm'
  obtain ⟨z, hz⟩ := hp _ hm
  obtain ⟨z', hz'⟩ := hp _ hm'
  by_cases ez : z = z'
  · subst ez
    have e0 := hu _ hm _ hm' z hz hz'
    obtain ⟨a, o, t, u, x, y, n, e, ho, hc, hd⟩ := hz
    rw [← e0, e]
    refine ⟨false, ?_⟩
    refine PySem.W.kat_lt ho hd ho hd ?_
    show PySem.W.KatLex prog w A true (decide (4 < 4)) _ [(.str c t, .str c t), (.str z u, .str z u), (x, x), (y, y)] 0 s
    refine PySem.W.kat_cons (SeqAt.EqAt.same _ prog w _ _ (PySem.W.kat_yes ?_))
    refine PySem.W.kat_cons (SeqAt.EqAt.same _ prog w _ _ (PySem.W.kat_yes ?_))
    refine PySem.W.kat_cons (SeqAt.EqAt.same _ prog w _ _ (PySem.W.kat_yes ?_))
    refine PySem.W.kat_cons (SeqAt.EqAt.same _ prog w _ _ (PySem.W.kat_yes ?_))
    exact PySem.W.kat_nil ⟨rfl, rfl⟩
  · obtain ⟨a, o, t, u, x, y, n, e, ho, hc, hd⟩ := hz
    obtain ⟨a', o', t', u', x', y', n', e', ho', hc', hd'⟩ := hz'
    rw [e, e']
    refine ⟨decide (z.cps.toList < z'.cps.toList), ?_⟩
    refine PySem.W.kat_lt ho hd ho' hd' ?_
    show PySem.W.KatLex prog w A true (decide (4 < 4)) _ [(.str c t, .str c t'), (.str z u, .str z' u'), (x, x'), (y, y')] 0 s
    refine PySem.W.kat_cons (SeqAt.EqAt.str_str c t c t' prog w _ _ ?_)
    refine PySem.W.kat_go (fun _ => ?_) (fun e1 => by simp at e1)
    refine PySem.W.kat_yes (PySem.W.kat_cons (SeqAt.EqAt.str_str z u z' u' prog w _ _ ?_))
    refine PySem.W.kat_go (fun e2 => absurd (by simpa using e2) ez) (fun e2 => ?_)
    exact PySem.W.kat_no (PySem.W.kat_one _ _ (PyProof.Rows.lt_str ⟨rfl, rfl⟩))
theorem ft_firsts {h : Heap} {c : Str} : ∀ {vs : List Value}, (∀ v ∈ vs, ∃ z, IsFT h v c z) → ∃ fs : List Value, PySem.W.KatTups h vs fs ∧ fs.length = vs.length ∧ ∀ f ∈ fs, ∃ x t, f = Value.str x t
  | [], _ => ⟨[], PySem.W.KatTups.nil, rfl, fun _ hm => by simp at hm⟩
  | v :: vs, hp => by
    obtain ⟨fs, h1, h2, h3⟩ := ft_firsts (vs := vs) fun v' hm => hp v' (List.mem_cons_of_mem _ hm)
    obtain ⟨z, a, o, t, u, x, y, n, e, ho, hc, hd⟩ := hp v (List.mem_cons_self ..)
    subst e
    refine ⟨.str c t :: fs, PySem.W.KatTups.cons ho hc hd rfl h1, by rw [List.length_cons, List.length_cons, h2], fun f hm => ?_⟩
    rcases List.mem_cons.mp hm with rfl | hm
    · exact ⟨c, t, rfl⟩
    · exact h3 f hm
theorem ft_sortable {a : Addr} {c : Str} {vs : List Value} (h0 : 0 < vs.length) (hp : ∀ v ∈ vs, ∃ z, IsFT s.heap v c z) (hu : ∀ v ∈ vs, ∀ v' ∈ vs, ∀ z, IsFT s.heap v c z → IsFT s.heap v' c z → v = v')
    (ha : ∀ o, s.heap.get? a = some o → o.cls ≠ .type "tuple") : Sortable prog w A s a vs := by
  intro h' keep
  have kk : ∀ v z, IsFT s.heap v c z → IsFT h' v c z := fun v z p => p.keeps fun b o e cc => keep b o (fun q => by subst q; exact ha o e cc) e
  have hp' : ∀ v ∈ vs, ∃ z, IsFT h' v c z := fun v hm => by
    obtain ⟨z, p⟩ := hp v hm
    exact ⟨z, kk v z p⟩
  have uniq : ∀ v z z', IsFT h' v c z → IsFT h' v c z' → z = z' := fun v z z' p q => by
    obtain ⟨a, o, t, u, x, y, n, e, ho, hc, hd⟩ := p
    obtain ⟨a', o', t', u', x', y', n', e', ho', hc', hd'⟩ := q
    rw [e] at e'; cases e'
    rw [ho] at ho'; cases ho'
    rw [hd] at hd'
    simp at hd'
    exact hd'.1.2.1.1
  have hu' : ∀ v ∈ vs, ∀ v' ∈ vs, ∀ z, IsFT h' v c z → IsFT h' v' c z → v = v' := fun v hv v' hv' z p p' => by
    obtain ⟨y, r⟩ := hp v hv
    obtain ⟨y', r'⟩ := hp v' hv'
    have e1 := uniq v y z (kk v y r) p
    have e2 := uniq v' y' z (kk v' y' r') p'
    subst e1; subst e2
    exact hu v hv v' hv' _ r r'
  obtain ⟨fs, h1, h2, h3⟩ := ft_firsts hp'
  refine ⟨tuples' true, fun Q E hq => ?_, ft_tot hp' hu'⟩
  refine PySem.W.kat_kind (T := .type "str") h1 (by omega) (fun f hm => ?_) (by rfl) ?_
  · obtain ⟨x, t, rfl⟩ := h3 f hm
    exact PySem.W.Looks.now
  · have e : (Value.type "str" != Value.type "tuple") = true := by first | decide +kernel | rfl | decide
    rw [e]
    exact hq
theorem sorted_fts {l : Addr} {c : Str} {vs : List Value} {Q : Value → Shared → Prop} (hl : s.heap.IsList l vs.toArray) (hz : vs.length ≤ sizeLine) (hp : ∀ v ∈ vs, ∃ z, IsFT s.heap v c z)
    (hu : ∀ v ∈ vs, ∀ v' ∈ vs, ∀ z, IsFT s.heap v c z → IsFT s.heap v' c z → v = v')
    (h : ∀ (h' : Heap) (d : Addr) (out : List Value), out.Perm vs → (∀ b o, s.heap.get? b = some o → h'.get? b = some o) → s.heap.objs.size ≤ d → (∃ n, h'.get? d = some (seqObj "list" out.toArray n)) → Q (.ref d) { s with heap := h' }) :
    wpAny (model prog w) A (call (.builtin "sorted") [.ref l]) Q E s := by
  refine sorted_any hl hz (fun h2 h₁ a ha k => ?_) fun out ho => ?_
  · have kk : ∀ v z, IsFT s.heap v c z → IsFT h₁ v c z := fun v z p => p.keeps fun b o e _ => (k b o e).2
    have uniq : ∀ v z z', IsFT h₁ v c z → IsFT h₁ v c z' → z = z' := fun v z z' p q => by
      obtain ⟨a, o, t, u, x, y, n, e, ho, hc, hd⟩ := p
      obtain ⟨a', o', t', u', x', y', n', e', ho', hc', hd'⟩ := q
      rw [e] at e'; cases e'
      rw [ho] at ho'; cases ho'
      rw [hd] at hd'
      simp at hd'
      exact hd'.1.2.1.1
    refine ft_sortable (c := c) (s := { s with heap := h₁ }) (by omega) (fun v hm => ?_) (fun v hv v' hv' z p p' => ?_) fun o e => ?_
    · obtain ⟨z, p⟩ := hp v hm
      exact ⟨z, kk v z p⟩
    · obtain ⟨y, r⟩ := hp v hv
      obtain ⟨y', r'⟩ := hp v' hv'
      have e1 := uniq v y z (kk v y r) p
      have e2 := uniq v' y' z (kk v' y' r') p'
      subst e1; subst e2
      exact hu v hv v' hv' _ r r'
    · have e' : some o = some (seqObj "list" vs.toArray 0) := e.symm.trans ha
      cases e'
      intro c
      exact absurd (Value.type.inj c) (by decide)
  · exact h _ _ out ho (fun b o e => sortedAll_old e) (Nat.le_succ _) (sortedAll_at s.heap vs out.toArray)
end
end Srt
namespace BkG
open PySem PySem.Spec PyProof.Rows L2
/-- sorted(xs), xs a list of tuples (c, z, x, y), each with another z: the same in some order -/
def rSortedF (K : PySem.W.Frag) : List V → Hp → VK → Prop := fun vs H Q => ∃ (a : Addr) (xs : List V) (c : Str), vs = [V.ref a] ∧ SqL K H a xs ∧ (∀ x ∈ xs, ∃ t z i j, x = V.ref t ∧ H t = some (.tup [.str c, .str z, i, j])) ∧
  (∀ t t' z i j i' j', V.ref t ∈ xs → V.ref t' ∈ xs → H t = some (.tup [.str c, .str z, i, j]) → H t' = some (.tup [.str c, .str z, i', j']) → t = t') ∧
  ∀ ys p, ys.Perm xs → H p = none → Q (.ref p) (upd H p (.lst ys))
theorem cr_sortedF {X : Cx} : CallR X (.builtin "sorted") (rSortedF X.K) := by
  intro pins s σ H vs us Q I r h
  obtain ⟨a, xs, c, rfl, hs, hx, hu, q⟩ := h
  obtain ⟨its, rv, hl, hz⟩ := I.list hs
  obtain ⟨u, rfl, ru⟩ := vals1 r
  obtain rfl : u = Value.ref a := ru
  obtain ⟨e1, e2⟩ := refs_back rv fun x m => by
    obtain ⟨t, _, _, _, e, _⟩ := hx x m
    exact ⟨t, e⟩
  have at' : ∀ t z i j, H t = some (.tup [.str c, .str z, i, j]) → Srt.IsFT s.heap (.ref t) c z := fun t z i j ht => by
    obtain ⟨_, its2, r2, o, ho, hc, n, hd⟩ := I.hok _ _ ht
    cases r2 with
    | cons ra r2 => cases r2 with
      | cons rb r2 => cases r2 with
        | cons rc r2 => cases r2 with
          | cons rd r2 =>
            cases r2
            obtain ⟨t1, rfl⟩ := ra
            obtain ⟨t2, rfl⟩ := rb
            exact ⟨t, o, t1, t2, _, _, n, rfl, ho, hc, hd⟩
  have uniq : ∀ v z z', Srt.IsFT s.heap v c z → Srt.IsFT s.heap v c z' → z = z' := fun v z z' p q => by
    obtain ⟨a, o, t, u, x, y, n, e, ho, hc, hd⟩ := p
    obtain ⟨a', o', t', u', x', y', n', e', ho', hc', hd'⟩ := q
    rw [e] at e'; cases e'
    rw [ho] at ho'; cases ho'
    rw [hd] at hd'
    simp at hd'
    exact hd'.1.2.1.1
  have mem : ∀ t, Value.ref t ∈ its → V.ref t ∈ xs := fun t hv => by rw [e1]; exact List.mem_map.mpr ⟨_, hv, rfl⟩
  refine Srt.sorted_fts (c := c) hl.isList (by rw [← rv.length]; exact hz) (fun v hv => ?_) (fun v hv v' hv' z p p' => ?_) fun h' d out hp k hd hn => ?_
  · obtain ⟨t, rfl⟩ := e2 v hv
    obtain ⟨t', z, i, j, e, ht⟩ := hx _ (mem t hv)
    cases e
    exact ⟨z, at' _ _ _ _ ht⟩
  · obtain ⟨t, rfl⟩ := e2 v hv
    obtain ⟨t', rfl⟩ := e2 v' hv'
    obtain ⟨t1, z1, i, j, e, ht⟩ := hx _ (mem t hv)
    cases e
    obtain ⟨t2, z2, i', j', e, ht'⟩ := hx _ (mem t' hv')
    cases e
    have a1 := uniq _ _ _ (at' _ _ _ _ ht) p
    have a2 := uniq _ _ _ (at' _ _ _ _ ht') p'
    subst a1; subst a2
    rw [hu t t' _ i j i' j' (mem t hv) (mem t' hv') ht ht']
  · have h3 : ∀ u ∈ out, ∃ a, u = Value.ref a := fun u hu => e2 u (hp.mem_iff.mp hu)
    obtain ⟨n, hn⟩ := hn
    refine ⟨.ref d, upd H d (.lst (out.map backV)), I.laid (t' := s.toks) k hd ⟨?_, out, n, vals_back h3, hn⟩, rfl, q _ d ?_ (I.hok.fresh hd)⟩
    · rw [List.length_map, hp.length_eq, ← rv.length]; exact hz
    · rw [e1]; exact hp.map backV
end BkG
end
section
/-! ### sets of texts: how many (the proofs follow those for sets of ints) -/
namespace BkG
open PySem PySem.Spec PyProof.Rows L2
def keyT (e : Int × Value) : Str := match e.2 with | .str k _ => k | _ => Str.empty
def GoodT (w : World) (e : Int × Value) : Prop := ∃ k tk, e.2 = Value.str k tk ∧ e.1 = hashStr w k
/-- the set of texts at a: S its members, n their number -/
def SetRT (w : World) (h : Heap) (a : Addr) (S : Str → Bool) (n : Nat) : Prop :=
  ∃ o es ep t, h.get? a = some o ∧ o.ExactSet ∧ o.data = .set es ep t ∧ (∀ e ∈ es.toList, GoodT w e) ∧ (es.toList.map keyT).Nodup ∧ (∀ k, S k = true ↔ k ∈ es.toList.map keyT) ∧
    es.size < scanBound ∧ t.fits es.size = true ∧ es.size = n ∧ Ris t.place.toList ∧ (w.params.followText "set-order" = true ∨ t.led = true)
section
variable {P : Program} {w : World} {h h' : Heap} {a : Addr} {S : Str → Bool} {n : Nat}
theorem SetRT.at (R : SetRT w h a S n) (k : ∀ o, h.get? a = some o → h'.get? a = some o) : SetRT w h' a S n := by
  obtain ⟨o, es, ep, t, ho, r⟩ := R
  exact ⟨o, es, ep, t, k o ho, r⟩
theorem SetRT.congr {S' : Str → Bool} (R : SetRT w h a S n) (e : ∀ k, S' k = S k) : SetRT w h a S' n := by
  have q : S' = S := funext e
  rw [q]; exact R
theorem goodT_elems {l : List (Int × Value)} (g : ∀ e ∈ l, GoodT w e) : ElemsOf (strKind P w) l := fun e he => by
  obtain ⟨k, tk, h1, h2⟩ := g e he
  exact ⟨⟨k, by rw [h1]; exact strKind_is P w k tk, h2⟩, by rw [h1] <;> rfl⟩
theorem goodT_is {e : Int × Value} (g : GoodT w e) (k : Str) : (strKind P w).is k e.2 = true ↔ keyT e = k := by
  obtain ⟨k0, tk, h1, _⟩ := g
  unfold keyT
  rw [h1]
  show ((k0 == k) = true) ↔ k0 = k
  exact beq_iff_eq
theorem goodT_mem {l : List (Int × Value)} (g : ∀ e ∈ l, GoodT w e) (k : Str) : k ∈ l.map keyT ↔ ∃ e ∈ l, (strKind P w).is k e.2 = true := by
  rw [List.mem_map]
  constructor
  · rintro ⟨e, he, q⟩
    exact ⟨e, he, (goodT_is (g e he) k).2 q⟩
  · rintro ⟨e, he, q⟩
    exact ⟨e, he, (goodT_is (g e he) k).1 q⟩
theorem setRT_new_at {ns : List Str} (ho : h.get? a = some { cls := .type "set", dict := none, data := .set #[] 0 (.fresh 0 0 (!w.params.followText "set-order")) }) : SetRT w h a (fun j => decide (j ∈ ns.take 0)) 0 :=
  ⟨_, #[], 0, _, ho, ⟨rfl, rfl, rfl⟩, rfl, (fun e he => by simp at he), (by simp), (fun k => by simp), (by decide), (by rfl), rfl, List.Pairwise.nil, by
    show _ ∨ (!w.params.followText "set-order") = true
    cases w.params.followText "set-order"
    · exact .inr rfl
    · exact .inl rfl⟩
end
section
variable {P : Program} {w : World} {A : Around} {E : Value → Shared → Prop} {s : Shared} {a : Addr} {S : Str → Bool} {n : Nat}
theorem setRT_add_tail {g : Bool → Sem Unit} (hg : ∀ (b : Bool) (s₁ : Shared) (Q' : Unit → Shared → Prop), Q' () s₁ → wpAny (model P w) A (g b) Q' E s₁)
    {o : Obj} {es : Array (Int × Value)} {ep : Nat} {t : SetTable} (ho : s.heap.get? a = some o) (hex : o.ExactSet) (hd : o.data = .set es ep t)
    {es1 : Array (Int × Value)} {t2 : SetTable} {S' : Str → Bool} (g1 : ∀ e ∈ es1.toList, GoodT w e) (nd1 : (es1.toList.map keyT).Nodup) (m1 : ∀ k, S' k = true ↔ k ∈ es1.toList.map keyT)
    (hb1 : es1.size < scanBound) (hf2 : t2.fits es1.size = true) (hr : Ris t2.place.toList) (hl : w.params.followText "set-order" = true ∨ t2.led = true) {wasDummy : Bool} {R : Option Bool → Shared → Prop}
    (hR : ∀ h', Heap.SameBut a s.heap h' → SetRT w h' a S' es1.size → R (some true) { s with heap := h' }) :
    wpAny (model P w) A (do
        storeSet a es1 t2
        if (!wasDummy && t2.tooFull) = true then do
            g (relayAll t2 es1 (SetTable.grown es1.size)).2.2
            storeSet a (relayAll t2 es1 (SetTable.grown es1.size)).1 (relayAll t2 es1 (SetTable.grown es1.size)).2.1
            pure (some true)
          else pure (some true)) R E s := by
  refine wpAny_bind (wpAny_storeSet_of ho hd ?_ (fits_of_scanBound hb1))
  have ho1 := store_at (es' := es1) (t' := t2) ho hd
  have sb1 := Heap.SameBut.update s.heap a (Obj.putSet es1 t2)
  split
  · have pm := relayAll_perm t2 es1 (SetTable.grown es1.size)
    have hf3 := relayAll_fits t2 es1 (SetTable.grown es1.size)
    have hr3 := relayAll_ris t2 es1 (SetTable.grown es1.size)
    have hl3 := relayAll_led t2 es1 (SetTable.grown es1.size)
    generalize relayAll t2 es1 (SetTable.grown es1.size) = Z at pm hf3 hr3 hl3 ⊢
    obtain ⟨es2, t3, gave⟩ := Z
    dsimp only at pm hf3 hr3 hl3 ⊢
    have hsz : es2.size = es1.size := by rw [← Array.length_toList, pm.length_eq, Array.length_toList]
    have hb2 : es2.size < scanBound := by rw [hsz]; exact hb1
    refine wpAny_bind (hg _ _ _ ?_)
    refine wpAny_bind (wpAny_storeSet_of ho1 rfl ?_ (fits_of_scanBound hb2))
    have ho2 := store_at (es' := es2) (t' := t3) ho1 rfl
    refine wpAny_pure (hR _ (sb1.trans (Heap.SameBut.update _ a _)) ?_)
    exact ⟨_, es2, _, t3, ho2, hex, rfl, fun e he => g1 e (pm.mem_iff.mp he), (pm.map keyT).nodup_iff.mpr nd1, fun k => (m1 k).trans (pm.map keyT).mem_iff.symm, hb2, hf3, hsz, hr3,
      hl.imp id fun z => by rw [hl3]; exact z⟩
  · exact wpAny_pure (hR _ sb1 ⟨_, es1, _, t2, ho1, hex, rfl, g1, nd1, m1, hb1, hf2, rfl, hr, hl⟩)

theorem setRT_add_hashed {k : Str} {tk : Tok} {Q : Bool → Shared → Prop} (R : SetRT w s.heap a S n) (room : n + 1 < scanBound)
    (hQ : ∀ h', Heap.SameBut a s.heap h' → SetRT w h' a (fun j => S j || decide (j = k)) (if S k = true then n else n + 1) → Q (!S k) { s with heap := h' }) :
    wpAny (model P w) A (setAddHashed a (.str k tk) ((strKind P w).hash k)) Q E s := by
  obtain ⟨o, es, ep, t, ho, hex, hd, g, nd, hm, hb, hf, hn, hr, hl⟩ := R
  have hkey : (strKind P w).is k (.str k tk) = true := strKind_is P w k tk
  have hsc : (Value.str k tk).scannable = true := rfl
  have hel : ElemsOf (strKind P w) es.toList := goodT_elems g
  unfold setAddHashed setAddHashedIn
  refine wpAny_holding (wpAny_bind (wpAny_setState_of ho hd hf ?_))
  dsimp only
  rw [byScan_of hsc hb hel]
  simp only [↓reduceIte]
  unfold setAddByScan
  refine wpAny_bind ?_
  refine wpAny_bind (wpAny_rule ?_)
  refine wpAny_bind (wpAny_setScan_of hkey ho hd hf hel ?_)
  cases hfi : List.findIdx? (fun e => (strKind P w).is k e.2) es.toList with
  | some j =>
    dsimp only
    obtain ⟨hj, pj, _⟩ := List.findIdx?_eq_some_iff_getElem.mp hfi
    have hSk : S k = true := (hm k).2 ((goodT_mem (P := P) (w := w) g k).2 ⟨es.toList[j], List.getElem_mem hj, pj⟩)
    refine wpAny_pure (wpAny_pure ?_)
    have q := hQ s.heap (Heap.SameBut.refl a s.heap) ⟨o, es, ep, t, ho, hex, hd, g, nd, fun i => by
      rw [Bool.or_eq_true, decide_eq_true_eq, ← hm i]
      exact ⟨fun z => z.elim id (fun e => e ▸ hSk), .inl⟩, hb, hf, by rw [if_pos hSk]; exact hn, hr, hl⟩
    rw [hSk] at q
    exact q
  | none =>
    dsimp only
    have hnk : k ∉ es.toList.map keyT := fun z => by
      obtain ⟨e, he, q⟩ := (goodT_mem (P := P) (w := w) g k).1 z
      have c := List.findIdx?_eq_none_iff.mp hfi e he
      rw [q] at c
      cases c
    have hSk : S k = false := by
      cases q : S k with
      | false => rfl
      | true => exact absurd ((hm k).1 q) hnk
    have hgw : ∀ (b : Bool) {s₁ : Shared} {Q' : Unit → Shared → Prop}, Q' () s₁ → wpAny (model P w) A (match b with | true => rule "set.scan.the-table-gave-way" | false => pure ()) Q' E s₁ :=
      fun b s₁ Q' q => by cases b <;> first | exact wpAny_pure q | exact wpAny_rule q
    have pm := layNew_perm t es ((strKind P w).hash k) (.str k tk)
    have hf1 := layNew_fits t es ((strKind P w).hash k) (.str k tk)
    have hr1 := layNew_ris t es ((strKind P w).hash k) (.str k tk) hr
    have hl1 := layNew_led t es ((strKind P w).hash k) (.str k tk)
    generalize layNew t es ((strKind P w).hash k) (.str k tk) = Z at pm hf1 hr1 hl1 ⊢
    obtain ⟨es1, t1, wasDummy, gave⟩ := Z
    dsimp only at pm hf1 hr1 hl1 ⊢
    rw [Array.toList_push] at pm
    have pc : es1.toList.Perm (((strKind P w).hash k, Value.str k tk) :: es.toList) := pm.trans (List.perm_append_singleton _ _)
    have pk : (es1.toList.map keyT).Perm (k :: es.toList.map keyT) := pc.map keyT
    have g1 : ∀ e ∈ es1.toList, GoodT w e := fun e he => by
      rcases List.mem_cons.mp (pc.mem_iff.mp he) with z | z
      · rw [z]; exact ⟨k, tk, rfl, rfl⟩
      · exact g e z
    have nd1 : (es1.toList.map keyT).Nodup := pk.nodup_iff.mpr (List.nodup_cons.mpr ⟨hnk, nd⟩)
    have m1 : ∀ i, (S i || decide (i = k)) = true ↔ i ∈ es1.toList.map keyT := fun i => by
      rw [Bool.or_eq_true, decide_eq_true_eq, hm i, pk.mem_iff, List.mem_cons]
      exact Or.comm
    have hsz : es1.size = n + 1 := by rw [← Array.length_toList, pc.length_eq, List.length_cons, Array.length_toList, hn]
    have hb1 : es1.size < scanBound := by rw [hsz]; exact room
    have hled : w.params.followText "set-order" = true ∨ t1.led = true := hl.imp id fun z => by rw [hl1]; exact z
    have fin : ∀ h', Heap.SameBut a s.heap h' → SetRT w h' a (fun j => S j || decide (j = k)) es1.size → Q true { s with heap := h' } := fun h' sb r => by
      have q := hQ h' sb
      rw [hSk] at q
      rw [hsz] at r
      exact q r
    refine wpAny_bind (hgw _ ?_)
    split
    · refine wpAny_bind ?_
      rw [hashByValue_scannable 8 hsc]
      refine wpAny_pure ?_
      refine setRT_add_tail ?_ ho hex hd g1 nd1 m1 hb1 ?_ ?_ ?_ ?_
      · intro b s₁ Q' q; cases b <;> first | exact wpAny_pure q | exact wpAny_rule q
      · first | (split <;> first | exact hf1 | exact SetTable.fits_plain_off hf1) | exact hf1
      · first | (split <;> exact hr1) | exact hr1
      · first | (split <;> exact hled) | exact hled
      · intro h' sb r; dsimp only; exact wpAny_pure (fin h' sb r)
    · refine wpAny_bind (wpAny_pure ?_)
      simp only [↓reduceIte]
      refine setRT_add_tail ?_ ho hex hd g1 nd1 m1 hb1 hf1 hr1 hled ?_
      · intro b s₁ Q' q; cases b <;> first | exact wpAny_pure q | exact wpAny_rule q
      · intro h' sb r; dsimp only; exact wpAny_pure (fin h' sb r)

theorem set_update_strs {I : Addr} {fp wr : List Addr} {G : Array GenState → Array GenState → Prop} {n : Nat} {Pv : Nat → Value → Prop} {St : Nat → Shared → Prop} {R : Result → Shared → Prop}
    (W : WalksS P w A.in1 I fp wr G n Pv St) (S : Addr) (hSf : S ∉ fp) (ns : List Str) (hn : n = ns.length) (hb : ns.length + 1 < scanBound) (hval : ∀ i v, Pv i v → ∃ k t, ns[i]? = some k ∧ v = .str k t) :
    ∀ (k i : Nat) (s : Shared), n - i = k → i ≤ n → St i s → (∃ c, (c ≤ i ∧ (c = i ↔ (ns.take i).Nodup)) ∧ SetRT w s.heap S (fun j => decide (j ∈ ns.take i)) c) →
      (∀ s' c, Moved (S :: wr) G s s' → (c ≤ n ∧ (c = n ↔ ns.Nodup)) → SetRT w s'.heap S (fun j => decide (j ∈ ns)) c → R (.ok (.ret .none)) s') →
      codeAny (model P w) A (.builtin "set.update.loop" ⟨[.ref S, .ref I], []⟩) R s := by
  have hSw : S ∉ wr := fun h => hSf (W.sub _ h)
  have hsub : ∀ b ∈ wr, b ∈ S :: wr := fun b hb => List.mem_cons_of_mem _ hb
  intro k
  induction k with
  | zero =>
    intro i s hk' hi hst ⟨c, hc, hS⟩ hR
    have hin : i = n := by omega
    subst hin
    refine codeAny_builtin F.entry_set_update_loop ?_
    rw [Around.under_plainId F.plain_set_update_loop _]
    show wpAny _ A.in1 (pyNext (.ref I) >>= _) _ _ s
    refine wpAny_bind (W.done s _ _ hst fun s' hm => ?_)
    show wpAny _ A.in1 (ret Value.none) _ _ s'
    have e : ns.take i = ns := List.take_of_length_le (by omega)
    rw [e] at hS hc
    exact wpAny_pure (hR s' c (hm.mono hsub) hc (hS.at fun o e => hm.heap S o hSw e))
  | succ k ih =>
    intro i s hk' hi hst ⟨c, hc, hS⟩ hR
    have hlt : i < n := by omega
    refine codeAny_builtin F.entry_set_update_loop ?_
    rw [Around.under_plainId F.plain_set_update_loop _]
    show wpAny _ A.in1 (pyNext (.ref I) >>= _) _ _ s
    refine wpAny_bind (W.item i s _ _ hlt hst fun v s' hP hst' hm => ?_)
    obtain ⟨z, t, hz, rfl⟩ := hval i v hP
    have hS' : SetRT w s'.heap S (fun j => decide (j ∈ ns.take i)) c := hS.at fun o e => hm.heap S o hSw e
    show wpAny _ A.in1 (holding [Value.str z t] (setAdd S (.str z t)) >>= _) _ _ s'
    refine wpAny_bind (wpAny_holding ?_)
    unfold setAdd
    refine wpAny_holding ?_
    refine wpAny_bind ((strKind P w).pyHash (k := z) (strKind_is _ _ _ _) ?_)
    refine setRT_add_hashed (s := { s' with toks := s'.toks + 1 }) hS' (by omega) fun h' hsb hS2 => ?_
    have hS3 : SetRT w h' S (fun j => decide (j ∈ ns.take (i + 1))) (if decide (z ∈ ns.take i) = true then c else c + 1) := hS2.congr fun j => by
      rw [List.take_add_one, hz]
      simp [List.mem_append]
    have hc3 : (if decide (z ∈ ns.take i) = true then c else c + 1) ≤ i + 1 ∧ ((if decide (z ∈ ns.take i) = true then c else c + 1) = i + 1 ↔ (ns.take (i + 1)).Nodup) := by
      have e1 : ns.take (i + 1) = ns.take i ++ [z] := by rw [List.take_add_one, hz]; rfl
      rw [e1, List.nodup_append]
      have h1 : [z].Nodup := by simp
      by_cases hm : z ∈ ns.take i
      · rw [if_pos (decide_eq_true hm)]
        refine ⟨by omega, fun e => by omega, fun e => absurd rfl (e.2.2 z hm z (by simp))⟩
      · rw [if_neg (by simp [hm])]
        refine ⟨by omega, fun e => ⟨hc.2.mp (by omega), h1, fun a ha b hb => by rw [List.mem_singleton.mp hb]; exact fun q => hm (q ▸ ha)⟩, fun e => by rw [hc.2.mpr e.1]⟩
    refine wpAny_pure ⟨plainId_quiet F.plain_set_update_loop _, ih (i + 1) _ (by omega) hlt (W.frame _ s' _ _ hst' (Nat.le_succ _) fun b hb o e => ?_) ⟨_, hc3, hS3⟩ fun s'' c2 hm'' hc'' hS'' => ?_⟩
    · rw [hsb.2 b (fun h : b = S => hSf (by rw [← h]; exact hb))]; exact e
    · refine hR s'' c2 (Moved.trans W.gtrans ((hm.mono hsub).then_heap (Nat.le_succ _) fun b o hb e => ?_) hm'') hc'' hS''
      rw [hsb.2 b (fun h : b = S => hb (by rw [h]; exact List.mem_cons_self))]; exact e

set_option maxRecDepth 100000 in
set_option maxHeartbeats 3200000 in
theorem call_set_lstT {l : Addr} {items : Array Value} (ns : List Str) {Q : Value → Shared → Prop} (hh : A.handled = none) (hl : s.heap.IsList l items) (hit : StrsAre items.toList ns) (hb : ns.length + 1 < scanBound)
    (h : ∀ (h' : Heap) (tk c : Nat), SetRT w h' s.heap.objs.size (fun j => decide (j ∈ ns)) c → (c ≤ ns.length ∧ (c = ns.length ↔ ns.Nodup)) → (∀ b o, s.heap.get? b = some o → h'.get? b = some o) → Q (.ref s.heap.objs.size) { s with heap := h', toks := tk }) :
    wpAny (model P w) A (call (.type "set") [.ref l]) Q E s := by
  have hisz : items.size = ns.length := by
    have q := StrsAre.length hit
    rw [Array.length_toList] at q
    exact q
  obtain ⟨c, tl, hmro⟩ := F.called_set.mro
  have hmade := F.called_set.made
  have hsub := F.called_set.sub
  refine wpAny_call (codeAny_of_tree ?_)
  show wpAny _ _ (callAny (.type "set") _) _ _ _
  refine wpAny_pure ⟨Code.quiet_builtin _ (by decide +kernel), codeAny_builtin F.entry_type_call ?_⟩
  rw [Around.under_plain (weight_type_call_type "set" [.ref l] []) rfl]
  have h1 := F.called_set.notType
  have h2 := F.called_set.canCreate
  have hct := F.typeCall_set_1 (.ref l)
  repeat (any_goals (first | assumption | wp_step))

  refine codeAny_mono (code_set_led1 (.ref l) (E := E) (Q₁ := fun obj s₁ => obj = .ref s.heap.objs.size ∧ s₁ = { s with heap := s.heap.push { cls := .type "set", dict := none, data := .set #[] 0 (.fresh 0 0 (!w.params.followText "set-order")) } }) ⟨rfl, rfl⟩) fun r s₁ hr => ?_
  cases r with
  | error e => exact hr
  | ok fl =>
    cases fl with
    | ret obj =>
      obtain ⟨rfl, rfl⟩ := hr
      have hS : (s.heap.push { cls := .type "set", dict := none, data := .set #[] 0 (.fresh 0 0 (!w.params.followText "set-order")) }).get? s.heap.objs.size = some { cls := .type "set", dict := none, data := .set #[] 0 (.fresh 0 0 (!w.params.followText "set-order")) } := Heap.get?_push_size _ rfl
      have hT : Shared.TypeIs { s with heap := s.heap.push { cls := .type "set", dict := none, data := .set #[] 0 (.fresh 0 0 (!w.params.followText "set-order")) } } (.ref s.heap.objs.size) "set" := ⟨_, hS, rfl⟩
      have hli := F.called_set.init.lookup
      have hbi := F.called_set.init.bind (.ref s.heap.objs.size)
      repeat (any_goals (first | assumption | wp_step))

      refine codeAny_mono (codeAny_call_builtin (R := wants (fun r s₂ => r = .none ∧ ∃ h' tk c, s₂ = { s with heap := h', toks := tk } ∧ SetRT w h' s.heap.objs.size (fun j => decide (j ∈ ns)) c ∧ (c ≤ ns.length ∧ (c = ns.length ↔ ns.Nodup)) ∧
          (∀ b o, s.heap.get? b = some o → h'.get? b = some o)) E) F.called_set.init.plain F.entry_set_init (check_set_init_1 hT ?_)) fun r₂ s₂ hr₂ => ?_
      · obtain ⟨ol, hol, hcl, nl, hdl⟩ := hl
        obtain ⟨ocls, odict, odata, oslots⟩ := ol
        simp only at hcl hdl
        subst hcl; subst hdl
        have hol' : (s.heap.push { cls := .type "set", dict := none, data := .set #[] 0 (.fresh 0 0 (!w.params.followText "set-order")) }).get? l = some { cls := .type "list", dict := odict, data := .seq items nl, slots := oslots } := Heap.get?_push_of_some _ hol
        have hsls := F.sub_list_set
        have hslf := F.sub_list_frozenset
        have hne : (Value.type "list" == Value.type "dict") = false := by decide
        have hl1 : (s.heap.push { cls := .type "set", dict := none, data := .set #[] 0 (.fresh 0 0 (!w.params.followText "set-order")) }).IsList l items := ⟨_, hol', rfl, nl, rfl⟩
        unfold Builtin.«set.__init__» noKeywords Builtin.Frozenset.updateFrom
        generalize hPI : pyIter = PI
        wp_walk
        subst hPI

        refine wpAny_pyIter_list hl1 ?_
        refine wpAny_bind (wpAny_runValue ?_)
        have hlS : l < s.heap.objs.size := Heap.lt_size hol
        have hh3 : A.in1.in1.in1.handled = none := by simp [hh]
        have hz1 : (s.heap.push { cls := .type "set", dict := none, data := .set #[] 0 (.fresh 0 0 (!w.params.followText "set-order")) }).objs.size = s.heap.objs.size + 1 := Heap.size_push ..
        have hneI : l ≠ (s.heap.push { cls := .type "set", dict := none, data := .set #[] 0 (.fresh 0 0 (!w.params.followText "set-order")) }).objs.size := by
          rw [Heap.size_push]; exact Nat.ne_of_lt (Nat.lt_succ_of_lt hlS)
        have hSf : s.heap.objs.size ∉ [(s.heap.push { cls := .type "set", dict := none, data := .set #[] 0 (.fresh 0 0 (!w.params.followText "set-order")) }).objs.size, l] := by
          rw [Heap.size_push]; simp only [List.mem_cons, List.mem_singleton, List.not_mem_nil, or_false, not_or]
          exact ⟨Nat.ne_of_lt (Nat.lt_succ_self _), Nat.ne_of_gt hlS⟩
        have hval : ∀ (i : Nat) (v : Value), items[i]? = some v → ∃ k t, ns[i]? = some k ∧ v = .str k t := fun i v hv => by
          have hi : i < ns.length := by rw [← hisz]; exact (Array.getElem?_eq_some_iff.mp hv).1
          obtain ⟨t, e⟩ := SS.strs_at hit i v (by rw [Array.getElem?_toList]; exact hv)
          refine ⟨ns[i], t, List.getElem?_eq_getElem hi, ?_⟩
          rw [e, List.getD_eq_getElem?_getD, List.getElem?_eq_getElem hi] <;> rfl
        refine set_update_strs ((Walks.list hh3 _ l hneI items).toS) s.heap.objs.size
          hSf ns hisz hb hval (items.size - 0) 0 _ (by omega) (Nat.zero_le _)
          ⟨⟨_, Heap.get?_push_size _ rfl, rfl, rfl⟩, (hl1.push _)⟩ ?hS0 ?hR
        case hS0 =>
          have hget : ((s.heap.push { cls := .type "set", dict := none, data := .set #[] 0 (.fresh 0 0 (!w.params.followText "set-order")) }).push { cls := .type "list_iterator", data := .fields #[.ref l, .int 0 0] }).get? s.heap.objs.size
              = some { cls := .type "set", dict := none, data := .set #[] 0 (.fresh 0 0 (!w.params.followText "set-order")) } := Heap.get?_push_of_some _ hS
          exact ⟨0, ⟨Nat.le_refl 0, by simp⟩, setRT_new_at hget⟩
        case hR =>
          intro s' c' hm hc' hS'
          obtain ⟨h', g2, d', tk', os'⟩ := s'
          have eg : g2 = s.gens := hm.gens
          have ed : d' = s.drawn := hm.drawn
          have eo : os' = s.os := hm.os
          subst eg; subst ed; subst eo
          show wpAny _ _ _ _ _ _
          refine wpAny_pure ?_
          show wpAny _ _ (ret Value.none) _ _ _
          rw [hisz] at hc'
          refine wpAny_pure ⟨rfl, h', tk', c', rfl, hS', hc', fun b o e => ?_⟩
          have hb0 : b < s.heap.objs.size := Heap.lt_size e
          have hb1 : b ≠ s.heap.objs.size := Nat.ne_of_lt hb0
          have hb2 : b ≠ (s.heap.push { cls := .type "set", dict := none, data := .set #[] 0 (.fresh 0 0 (!w.params.followText "set-order")) }).objs.size := by
            rw [Heap.size_push]; exact Nat.ne_of_lt (Nat.lt_succ_of_lt hb0)
          exact hm.heap b o (by simp only [List.mem_cons, List.mem_singleton, List.not_mem_nil, or_false, not_or]; exact ⟨hb1, hb2⟩) (Heap.get?_push_of_some _ (Heap.get?_push_of_some _ e))

      · cases r₂ with
        | error e => exact hr₂
        | ok fl₂ =>
          cases fl₂ with
          | ret r =>
            obtain ⟨rfl, h', tk, c', rfl, hS', hc', hk'⟩ := hr₂
            repeat (any_goals (first | assumption | wp_step))
            exact h _ _ _ hS' hc' hk'
          | _ => exact hr₂.elim
    | _ => exact hr.elim


end
end BkG
end
section
namespace BkG
open PySem PySem.Spec PyProof.Rows L2
section
variable {P : Program} {w : World} {A : Around} {E : Value → Shared → Prop} {s : Shared} {a : Addr} {S : Str → Bool} {n : Nat}
theorem strs_of : ∀ (l : List Value), (∀ v ∈ l, ∃ k tk, v = Value.str k tk) → ∃ ss, StrsAre l ss
  | [], _ => ⟨_, .nil⟩
  | v :: l, h => by
    obtain ⟨k, tk, rfl⟩ := h v List.mem_cons_self
    obtain ⟨ss, r⟩ := strs_of l fun u hu => h u (List.mem_cons_of_mem _ hu)
    exact ⟨_, .cons k tk r⟩
theorem sorted_setT {Q : Value → Shared → Prop} (R : SetRT w s.heap a S n) (hh : A.handled = none)
    (hQ : ∀ s' p (out : Array Value) (c : Nat), (∀ b o, s.heap.get? b = some o → s'.heap.get? b = some o) → s'.gens = s.gens → s'.os = s.os → s.heap.objs.size ≤ p →
      s'.heap.get? p = some (seqObj "list" out c) → out.size = n → Q (.ref p) s') :
    wpAny (model P w) A (call (.builtin "sorted") [.ref a]) Q E s := by
  obtain ⟨o, es, ep, t, ho, hex, hd, g, nd, hm, hb, hf, hn, hr, hl⟩ := R
  refine Calls.call_function_entry kind_sorted plain_sorted entry_sorted (args_sorted1 _) ?_
  unfold Builtin.«sorted»
  refine wpAny_bind (m := checkCount "sorted" 1 1 _) (wpAny_pure ?_)
  refine wpAny_bind (collect_set (A := A.in1) hh ⟨o, ho, hex.1, hd⟩ hf hb hr hl fun s1 vs k1 hz g1 o1 pm => ?_)
  have hvl : vs.length = n := by rw [pm.length_eq, List.length_map, Array.length_toList]; exact hn
  obtain ⟨ss, hS⟩ := strs_of vs fun v hv => by
    obtain ⟨e, he, q⟩ := List.mem_map.mp (pm.mem_iff.mp hv)
    obtain ⟨k, tk, h1, _⟩ := g e he
    exact ⟨k, tk, by rw [← q]; exact h1⟩
  have hsl : vs.length ≤ sizeLine := by rw [hvl, ← hn]; exact fits_of_scanBound hb
  refine wpAny_bind (wpAny_newList ?_ hsl)
  have hoL : (s1.heap.push (seqObj "list" vs.toArray 0)).get? s1.heap.objs.size = some (seqObj "list" vs.toArray 0) := Heap.get?_push_size _ rfl
  refine wpAny_bind (wpAny_holding (wpAny_call_entry slot_list_sort ⟨_, hoL, rfl⟩ entry_list_sort
    (list_sort_treeKAny strKind_oneLt hoL hS.keysOf (fun v₁ v₂ rest e => keyKind_strs (by rw [← e]; exact hS)) hsl fun st' hp _ => ⟨_, rfl, ?_⟩) (args_list_sort _)))
  have hol : ((arrOf st').map (·.2)).size = n := by
    rw [Array.size_map, ← Array.length_toList, (Array.perm_iff_toList_perm.mp hp).length_eq, Array.length_toList, pairsOf_size, hvl]
  obtain ⟨c, hc⟩ := sortedHeap_at (vs := vs) (out := (arrOf st').map (·.2)) hoL
  refine wpAny_pure ⟨_, rfl, hQ _ s1.heap.objs.size _ c (fun b u e => ?_) g1 o1 hz hc hol⟩
  have q := k1 b u e
  have hlt := Heap.lt_size q
  show (sortedHeap (s1.heap.push (seqObj "list" vs.toArray 0)) s1.heap.objs.size vs _).get? b = some u
  rw [sortedHeap_old (Nat.ne_of_lt hlt) (by rw [size_push']; exact Nat.lt_succ_of_lt hlt)]
  exact Heap.get?_push_of_some _ q
end
/-! ### len(set(xs)), len(sorted(set(xs))), xs a list of texts -/
def kLenSetT (K : PySem.W.Frag) (Q : VK) : VK := fun x H1 => ∃ (l : Addr) (ss : List Str), x = .ref l ∧ SqL K H1 l (ss.map V.str) ∧ ss.length < 4000 ∧ ∀ n : Nat, n ≤ ss.length → (n = ss.length ↔ ss.Nodup) → Q (.int (n : Int)) H1
def tLenSetT (K : PySem.W.Frag) (ta : TE) : TE := fun σ H Q => ta σ H (kLenSetT K Q)
theorem w_lenSetT {K : PySem.W.Frag} {ta : TE} {σ : L2.St} {H : Hp} {Q : VK} (h : ta σ H (kLenSetT K Q)) : tLenSetT K ta σ H Q := h
theorem k_lenSetT {K : PySem.W.Frag} {H : Hp} {Q : VK} {l : Addr} {ss : List Str} (h : H l = some (.lst (ss.map V.str))) (hl : ss.length < 4000) (q : ∀ n : Nat, n ≤ ss.length → (n = ss.length ↔ ss.Nodup) → Q (.int (n : Int)) H) : kLenSetT K Q (.ref l) H := ⟨l, ss, rfl, .of h, hl, q⟩
section
variable {X : Cx}
theorem pe_lenSetT {a : Expr} {ta : TE} {p p2 q pos : Pos} (hc : X.calm = true) (hg : Gl X "len") (hm : X.mg "len" = none) (hg2 : Gl X "set") (hm2 : X.mg "set" = none) (ha : PE X a ta)
    (na : starEach [a] X.env = (false, eval a X.env) :: starEach [] X.env := by rfl) : PE X (.Call (.Name "len" p) [.Call (.Name "set" p2) [a] [] q] [] pos) (tLenSetT X.K ta) := by
  refine ⟨fun pins s σ H Q I h => ?_⟩
  refine Call_ (ld_blt I hg hm boot_len ?_)
  refine PyProof.Rows.callWith_builtin1 (PyProof.Rows.args_cons ?_ rfl) rfl rfl
  refine Call_ (ld_blt I hg2 hm2 boot_set ?_)
  refine PyProof.Rows.callWith_type1 (PyProof.Rows.args_cons (thn (ha.run pins s σ H _ I h) fun v s1 ⟨x, H1, I1, r1, q1⟩ => PyProof.Rows.args_nil ?_) na) na rfl
  obtain ⟨l, ss, rfl, hq, hlen, q1⟩ := q1
  cases r1
  obtain ⟨its, r, pl, hz⟩ := I1.list hq
  refine call_set_lstT ss (I1.ok.hd hc) pl.isList (by simpa using strsAre_of r) (by unfold scanBound; omega) fun h' tk c R hcn k => ?_
  refine PyProof.Rows.args_nil ?_
  obtain ⟨o, es, ep, t, ho, hex, hd, _, _, _, hb, hf, hn, _⟩ := R
  have I2 : Inv X pins σ H1 { s1 with heap := h', toks := tk } := I1.kept k
  exact call_len_set ho hex hd hf (by rw [hn] <;> omega) ⟨.int c, H1, I2.tok _, ⟨_, by rw [hn]⟩, q1 c hcn.1 hcn.2⟩
theorem pe_lenSortSetT {a : Expr} {ta : TE} {p p2 p3 q q2 pos : Pos} (hc : X.calm = true) (hg : Gl X "len") (hm : X.mg "len" = none) (hg2 : Gl X "set") (hm2 : X.mg "set" = none) (hg3 : Gl X "sorted") (hm3 : X.mg "sorted" = none) (ha : PE X a ta)
    (na : starEach [a] X.env = (false, eval a X.env) :: starEach [] X.env := by rfl) : PE X (.Call (.Name "len" p) [.Call (.Name "sorted" p3) [.Call (.Name "set" p2) [a] [] q] [] q2] [] pos) (tLenSetT X.K ta) := by
  refine ⟨fun pins s σ H Q I h => ?_⟩
  refine Call_ (ld_blt I hg hm boot_len ?_)
  refine PyProof.Rows.callWith_builtin1 (PyProof.Rows.args_cons ?_ rfl) rfl rfl
  refine Call_ (ld_blt I hg3 hm3 boot_sorted ?_)
  refine PyProof.Rows.callWith_builtin1 (PyProof.Rows.args_cons ?_ rfl) rfl rfl
  refine Call_ (ld_blt I hg2 hm2 boot_set ?_)
  refine PyProof.Rows.callWith_type1 (PyProof.Rows.args_cons (thn (ha.run pins s σ H _ I h) fun v s1 ⟨x, H1, I1, r1, q1⟩ => PyProof.Rows.args_nil ?_) na) na rfl
  obtain ⟨l, ss, rfl, hq, hlen, q1⟩ := q1
  cases r1
  obtain ⟨its, r, pl, hz⟩ := I1.list hq
  refine call_set_lstT ss (I1.ok.hd hc) pl.isList (by simpa using strsAre_of r) (by unfold scanBound; omega) fun h' tk c R hcn k => ?_
  refine PyProof.Rows.args_nil ?_
  have I2 : Inv X pins σ H1 { s1 with heap := h', toks := tk } := I1.kept k
  refine sorted_setT R (I1.ok.hd hc) fun s' p out c' k' hg' ho' hp' hl' hs' => ?_
  refine PyProof.Rows.args_nil ?_
  have I3 : Inv X pins σ H1 s' := I2.call' (ch := []) ho' (Un.kept k') (I2.hok.kept k') (by rw [hg']; exact I2.bare) (fun _ z => nomatch z)
  have hll : s'.heap.IsList p out := ⟨_, hl', rfl, _, rfl⟩
  have hn63 := line63
  have hcn1 := hcn.1
  exact Calls.call_len_list hll (by rw [hs'] <;> omega) ⟨.int c, H1, I3.tok _, ⟨_, by rw [hs']⟩, q1 c hcn.1 hcn.2⟩
end
end BkG
end
section
/-! ### t[::-1], a tuple (the proof follows that for a cut of a tuple) -/
namespace HT
open PySem PySem.Spec PyProof.Rows
section
variable {prog : Program} {w : World} {A : Around} {E : Value → Shared → Prop} {s : Shared}
theorem rev_adjust (n : Nat) : Builtin.Slice.sliceAdjust none none (-1) (n : Int) = ((n : Int) - 1, -1) := by
  unfold Builtin.Slice.sliceAdjust
  simp
theorem rev_places (n : Nat) : Builtin.Slice.slicePlaces ((n : Int) - 1) (-1) (-1) = n := by
  unfold Builtin.Slice.slicePlaces
  have h1 : ¬ ((-1 : Int) > 0) := by decide
  rw [if_neg h1]
  by_cases h : (n : Int) - 1 > -1
  · rw [if_pos h, show (-(-1) : Int) = 1 by decide, Int.ediv_one]
    have : (n : Int) - 1 - -1 - 1 + 1 = (n : Int) := by omega
    rw [this, Int.toNat_natCast]
  · rw [if_neg h]
    have : n = 0 := by omega
    rw [this]; rfl
theorem sliceApplied_rev {sl : Addr} {vl vu vs : Value} {n : Nat} {Q : Int × Int × Nat → Shared → Prop} (hs : s.heap.IsSliceOf sl vl vu vs) (pl : IsPart vl none) (pu : IsPart vu none) (ps : IsPart vs (some (-1)))
    (h : Q ((n : Int) - 1, -1, n) s) : wpAny (model prog w) A (Builtin.Slice.sliceApplied (.ref sl) (pure (n : Int))) Q E s := by
  obtain ⟨os, hos, hcs, hds⟩ := id hs
  unfold Builtin.Slice.sliceApplied Builtin.Slice.sliceFields
  refine wpAny_bind (wpAny_bind (wpAny_field hos hds (x := vl) rfl (wpAny_bind (wpAny_field hos hds (x := vu) rfl (wpAny_bind (wpAny_field hos hds (x := vs) rfl (wpAny_pure ?_)))))))
  refine wpAny_bind (slicePart_ ps ?_)
  show wpAny _ _ (if ((-1 : Int) == 0) = true then _ else _) _ _ s
  rw [if_neg (by decide)]
  refine wpAny_bind (slicePart_ pl (wpAny_bind (slicePart_ pu (wpAny_bind (wpAny_pure ?_)))))
  show wpAny _ _ (match Builtin.Slice.sliceAdjust none none (-1) (n : Int) with | (lo, hi) => pure (lo, (-1 : Int), Builtin.Slice.slicePlaces lo hi (-1))) _ _ s
  rw [rev_adjust n]
  show wpAny _ _ (pure ((n : Int) - 1, (-1 : Int), Builtin.Slice.slicePlaces ((n : Int) - 1) (-1) (-1))) _ _ s
  rw [rev_places]
  exact wpAny_pure h
theorem filterMap_same {α β : Type} {f g : α → Option β} : ∀ {l : List α}, (∀ x ∈ l, f x = g x) → l.filterMap f = l.filterMap g
  | [], _ => rfl
  | x :: l, h => by rw [List.filterMap_cons, List.filterMap_cons, h x List.mem_cons_self, filterMap_same fun y hy => h y (List.mem_cons_of_mem _ hy)]
theorem rev_pick (xs : Array Value) : ((List.range xs.size).filterMap fun (m : Nat) => xs[(((xs.size : Int) - 1) + (m : Int) * (-1)).toNat]?).toArray = xs.toList.reverse.toArray := by
  have e : (List.range xs.size).filterMap (fun (m : Nat) => xs[(((xs.size : Int) - 1) + (m : Int) * (-1)).toNat]?) = (List.range xs.size).filterMap ((fun k => xs[k]?) ∘ fun k => xs.size - 1 - k) := filterMap_same fun m hm => by
    have := List.mem_range.mp hm
    have e2 : (((xs.size : Int) - 1) + (m : Int) * (-1)).toNat = xs.size - 1 - m := by omega
    rw [e2] <;> rfl
  rw [e, ← List.filterMap_map, PySem.W.krv_range, List.filterMap_reverse, PySem.W.krv_all]
theorem getItem_tuple_rev {t sl : Addr} {items : Array Value} {vl vu vs : Value} {Q : Value → Shared → Prop} (ht : IsTup s.heap t items) (hs : s.heap.IsSliceOf sl vl vu vs) (pl : IsPart vl none) (pu : IsPart vu none) (ps : IsPart vs (some (-1)))
    (h : Q (.ref s.heap.objs.size) { s with heap := s.heap.push { cls := .type "tuple", data := .seq items.toList.reverse.toArray } })
    (hsz : items.size ≤ sizeLine) : wpAny (model prog w) A (getItem (.ref t) (.ref sl)) Q E s := by
  have htake : sizeOk (.seq items.toList.reverse.toArray) := by
    show items.toList.reverse.toArray.size ≤ sizeLine
    rw [List.size_toArray, List.length_reverse, Array.length_toList]
    exact hsz
  obtain ⟨os, hos, hcs, hds⟩ := id hs
  have hTs : s.TypeIs (.ref sl) "slice" := ⟨os, hos, hcs⟩
  unfold getItem
  try with_reducible refine wpAny_holding ?_
  first | refine wpAny_bind (wpAny_pure ?_) | skip
  refine wpAny_bind (wpAny_sequenceKey ht.typeIs (by decide) ?_)
  refine wpAny_bind (wpAny_callSpecial?_slot (name := Str.ofString "__getitem__") ht.typeIs PyProof.Rows.slot_tuple_getitem
    (wpAny_call_entry PyProof.Rows.slot_tuple_getitem ht.typeIs entry_tuple_getitem ?_ (args_tuple_getitem _ _)))
  show wpAny _ _ (Builtin.Tuple.tupleItemsOf (.ref t) >>= _) _ _ s
  refine wpAny_bind (tupleItemsOf_ ht ?_)
  refine wpAny_bind (wpAny_typeOf hTs ?_)
  rw [if_pos (by decide)]
  refine wpAny_bind (sliceApplied_rev hs pl pu ps ?_)
  have hno : ¬ ((((items.size : Int) - 1) == 0 && (-1 : Int) == 1 && items.size == items.size) = true) := by
    intro q
    rw [Bool.and_eq_true, Bool.and_eq_true] at q
    exact absurd q.1.2 (by decide)
  show wpAny _ _ (if (((items.size : Int) - 1) == 0 && (-1 : Int) == 1 && items.size == items.size) = true then _ else _) _ _ s
  rw [if_neg hno, rev_pick]
  first
    | exact wpAny_bind (m := Builtin.Tuple.tupleExact _) (wpAny_newObj_type (wpAny_pure ⟨_, rfl, wpAny_pure h⟩) htake)
    | exact wpAny_bind (m := Builtin.Tuple.tupleExact _) (wpAny_newObj_type (wpAny_bind (wpAny_pure (wpAny_pure ⟨_, rfl, wpAny_pure h⟩))) htake)
    | exact wpAny_bind (wpAny_bind (m := Builtin.Tuple.tupleExact _) (wpAny_newObj_type (wpAny_pure (wpAny_pure ⟨_, rfl, wpAny_pure h⟩)) htake))
    | exact wpAny_bind (wpAny_bind (m := Builtin.Tuple.tupleExact _) (wpAny_newObj_type (wpAny_pure ⟨_, rfl, wpAny_pure h⟩) htake))
end
end HT
namespace BkG
open PySem PySem.Spec PyProof.Rows L2
def kRevT (K : PySem.W.Frag) (Q : VK) : VK := fun x H1 => ∃ a xs, x = .ref a ∧ SqT K H1 a xs ∧ ∀ p, H1 p = none → Q (.ref p) (upd H1 p (.tup xs.reverse))
def tRevT (K : PySem.W.Frag) (te : TE) : TE := fun σ H Q => te σ H (kRevT K Q)
theorem w_revT {K : PySem.W.Frag} {te : TE} {σ : L2.St} {H : Hp} {Q : VK} (h : te σ H (kRevT K Q)) : tRevT K te σ H Q := h
theorem k_revT {K : PySem.W.Frag} {H : Hp} {Q : VK} {a : Addr} {xs : List V} (h : H a = some (.tup xs)) (q : ∀ p H2, H p = none → Ex H H2 → H2 p = some (.tup xs.reverse) → Q (.ref p) H2) : kRevT K Q (.ref a) H :=
  ⟨a, xs, rfl, .of h, fun p hp => q p _ hp (Ex.new hp) upd_same⟩
section
variable {X : Cx}
theorem pe_revT {e : Expr} {te : TE} {k : Nat} {p1 p2 p3 pos : Pos} (he : PE X e te) : PE X (.Subscript e (.Slice none none (some (.UnaryOp .USub (.Constant (.int 1) k p1) p2)) p3) pos) (tRevT X.K te) := by
  refine ⟨fun pins s σ H Q I h => ?_⟩
  refine Subscript_ (thn (he.run pins s σ H _ I h) fun v s1 ⟨x, H1, I1, r1, q1⟩ => ?_)
  obtain ⟨a, xs, ex, hx, q⟩ := q1
  subst ex
  cases r1
  have hst : PO X (some (.UnaryOp .USub (.Constant (.int 1) k p1) p2)) (tPart (tUn (rU fun i => .int (-i)) (tC (.int 1)))) := po_some (pe_un un_neg pe_int)
  refine wpAny_Slice (thn (po_none.run pins s1 σ H1 (fun o H2 => o = none ∧ H2 = H1) I1 ⟨rfl, rfl⟩) fun vl s2 ⟨l, H2, I2, pl, el, e2⟩ => ?_)
  subst el e2
  refine thn (po_none.run pins s2 σ H2 (fun o H3 => o = none ∧ H3 = H2) I2 ⟨rfl, rfl⟩) fun vu s3 ⟨u, H3, I3, pu, eu, e3⟩ => ?_
  subst eu e3
  refine thn (hst.run pins s3 σ H3 (fun o H4 => o = some (-1) ∧ H4 = H3) I3 ⟨1, rfl, -1, rfl, rfl, rfl⟩) fun vs s4 ⟨o, H4, I4, ps, eo, e4⟩ => ?_
  subst eo e4
  have I5 : Inv X pins σ H4 { s4 with heap := s4.heap.push { cls := .type "slice", data := .fields #[vl, vu, vs] } } := I4.kept (t' := s4.toks) fun b ob q => Heap.get?_push_of_some _ q
  obtain ⟨its, r, hT, hz⟩ := I5.tuple hx
  have hlen := r.length
  show wpAny (model X.prog X.w) X.A (subscriptTail e (.Slice none none (some (.UnaryOp .USub (.Constant (.int 1) k p1) p2)) p3) (.ref a) (.ref s4.heap.objs.size)) (EP X pins σ Q) X.xe { s4 with heap := s4.heap.push { cls := .type "slice", data := .fields #[vl, vu, vs] } }
  refine tail_any (ops := [.ref a, .ref s4.heap.objs.size]) hT.typeIs (PyProof.Rows.slot_tuple_getitem.lookup) ?_ (by with_unfolding_all rfl)
  refine HT.getItem_tuple_rev hT (Heap.IsSliceOf.new _ vl vu vs) pl pu ps ?_ (by rw [List.size_toArray]; omega)
  refine ⟨.ref _, _, I5.laid (t' := s4.toks) (o := .tup xs.reverse) (fun b ob q => Heap.get?_push_of_some _ q) (Nat.le_refl _) ?_, rfl, q _ (I5.hok.fresh (Nat.le_refl _))⟩
  exact ⟨by rw [List.length_reverse]; exact hz, its.reverse, r.reverse, _, Heap.get?_push_size _ rfl, rfl, _, rfl⟩
end
end BkG
end
section
namespace BkG
open PySem PySem.Spec L2 TL
/-! ### procedures, modules, faces: what they are -/
def ltS (a b : Str) : Bool := decide (a.cps.toList < b.cps.toList)
def risS (ss : List Str) : Bool := (ss.zip (ss.drop 1)).all fun p => ltS p.1 p.2
def strOf : PyData → Str
  | .str s => s
  | _ => ""
def pairKN : PyData → Bool
  | .tuple [k, n] => isKindD k && isNameD n
  | _ => false
def secS : PyData → Str
  | .tuple (_ :: n :: _) => strOf n
  | _ => ""
def fstS : PyData → Str
  | .tuple (n :: _) => strOf n
  | _ => ""
def unlike (ss : List Str) : Bool := decide ss.Nodup
def parmsD : PyData → Bool
  | .tuple ds => decide (ds.length ≤ 20) && (ds.all pairKN && unlike (ds.map secS))
  | _ => false
def procG (f : PyData → Bool) : PyData → Bool
  | .tuple [p, n, ps, b] => strIs p "proc" && (isNameD n && (parmsD ps && f b))
  | _ => false
def needsD : PyData → Bool
  | .tuple ds => decide (ds.length ≤ 20) && (ds.all isNameD && risS (ds.map strOf))
  | _ => false
def nameIn (n : PyData) : PyData → Bool
  | .tuple ds => inV (.str (strOf n)) ((ds.map strOf).map V.str)
  | _ => false
def procsG (f : PyData → Bool) : PyData → Bool
  | .tuple ds => decide (1 ≤ ds.length ∧ ds.length ≤ 40) && (ds.all (procG f) && unlike (ds.map secS))
  | _ => false
def moduleG (f : PyData → Bool) : PyData → Bool
  | .tuple [m, n, w, nd, ps] => strIs m "module" && (isNameD n && (isWid w && (needsD nd && (!nameIn n nd && procsG f ps))))
  | _ => false
def faceRowD : PyData → Bool
  | .tuple [n, ks] => isNameD n && areKindsD ks
  | _ => false
def rowsD : PyData → Bool
  | .tuple ds => decide (1 ≤ ds.length ∧ ds.length ≤ 40) && (ds.all faceRowD && unlike (ds.map fstS))
  | _ => false
def faceD : PyData → Bool
  | .tuple [f, n, w, rs] => strIs f "face" && (isNameD n && (isWid w && rowsD rs))
  | _ => false
def facesD : PyData → Bool
  | .tuple ds => decide (ds.length ≤ 40) && (ds.all faceD && risS (ds.map secS))
  | _ => false
theorem name_str {d : PyData} (h : isNameD d = true) : d = .str (strOf d) := by cases d <;> first | rfl | (simp [isNameD] at h)
theorem rel_strs {M : List Addr} {H : Hp} : ∀ {xs : List V} {ds : List PyData}, Rel M H xs ds → (∀ d ∈ ds, d = .str (strOf d)) → xs = (ds.map strOf).map V.str
  | xs, [], r, _ => by rw [r.none]; rfl
  | xs, d :: ds, r, h => by
    obtain ⟨v, ys, rfl, hv, r'⟩ := r.head
    rw [List.map_cons, List.map_cons, ← rel_strs r' fun e he => h e (List.mem_cons_of_mem _ he)]
    have e := h d List.mem_cons_self
    rw [e] at hv
    cases hv
    rfl
theorem proc_sec {f : PyData → Bool} {d : PyData} (h : procG f d = true) : ∃ p n ps b, d = .tuple [p, n, ps, b] ∧ isNameD n = true := by
  unfold procG at h
  split at h
  · next p n ps b =>
    simp only [Bool.and_eq_true] at h
    exact ⟨p, n, ps, b, rfl, h.2.1⟩
  · cases h
theorem face_sec {d : PyData} (h : faceD d = true) : ∃ p n w rs, d = .tuple [p, n, w, rs] ∧ isNameD n = true := by
  unfold faceD at h
  split at h
  · next p n ps b =>
    simp only [Bool.and_eq_true] at h
    exact ⟨p, n, ps, b, rfl, h.2.1⟩
  · cases h
theorem row_fst {d : PyData} (h : faceRowD d = true) : ∃ n ks, d = .tuple [n, ks] ∧ isNameD n = true := by
  unfold faceRowD at h
  split at h
  · next n ks =>
    simp only [Bool.and_eq_true] at h
    exact ⟨n, ks, rfl, h.1⟩
  · cases h
theorem pair_sec {d : PyData} (h : pairKN d = true) : ∃ k n, d = .tuple [k, n] ∧ isNameD n = true := by
  unfold pairKN at h
  split at h
  · next k n =>
    simp only [Bool.and_eq_true] at h
    exact ⟨k, n, rfl, h.2⟩
  · cases h
theorem len4 {α : Type} {l : List α} (h : l.length = 4) : ∃ a b c d, l = [a, b, c, d] := by
  rcases l with _ | ⟨a, _ | ⟨b, _ | ⟨c, _ | ⟨d, _ | ⟨e, l⟩⟩⟩⟩⟩ <;> first | exact ⟨_, _, _, _, rfl⟩ | (simp at h; done)
theorem len5 {α : Type} {l : List α} (h : l.length = 5) : ∃ a b c d e, l = [a, b, c, d, e] := by
  rcases l with _ | ⟨a, _ | ⟨b, _ | ⟨c, _ | ⟨d, _ | ⟨e, _ | ⟨f, l⟩⟩⟩⟩⟩⟩ <;> first | exact ⟨_, _, _, _, _, rfl⟩ | (simp at h; done)
theorem len2 {α : Type} {l : List α} (h : l.length = 2) : ∃ a b, l = [a, b] := by
  rcases l with _ | ⟨a, _ | ⟨b, _ | ⟨c, l⟩⟩⟩ <;> first | exact ⟨_, _, rfl⟩ | (simp at h; done)
theorem procG_len {f : PyData → Bool} {ds : List PyData} (h : ds.length ≠ 4) : procG f (.tuple ds) = false := by
  unfold procG
  split
  · next e => cases e; exact absurd rfl h
  · rfl
theorem moduleG_len {f : PyData → Bool} {ds : List PyData} (h : ds.length ≠ 5) : moduleG f (.tuple ds) = false := by
  unfold moduleG
  split
  · next e => cases e; exact absurd rfl h
  · rfl
theorem faceD_len {ds : List PyData} (h : ds.length ≠ 4) : faceD (.tuple ds) = false := by
  unfold faceD
  split
  · next e => cases e; exact absurd rfl h
  · rfl
theorem rowD_len {ds : List PyData} (h : ds.length ≠ 2) : faceRowD (.tuple ds) = false := by
  unfold faceRowD
  split
  · next e => cases e; exact absurd rfl h
  · rfl
theorem pairKN_len {ds : List PyData} (h : ds.length ≠ 2) : pairKN (.tuple ds) = false := by
  unfold pairKN
  split
  · next e => cases e; exact absurd rfl h
  · rfl
theorem no_tup {d : PyData} (h : isTup d = false) (f : PyData → Bool) : procG f d = false ∧ moduleG f d = false ∧ faceD d = false ∧ facesD d = false ∧ faceRowD d = false ∧ pairKN d = false ∧ parmsD d = false ∧ needsD d = false ∧ procsG f d = false ∧ rowsD d = false ∧ areKindsD d = false := by
  cases d <;> first | (simp [isTup] at h; done) | exact ⟨rfl, rfl, rfl, rfl, rfl, rfl, rfl, rfl, rfl, rfl, rfl⟩
theorem r_neD2' {K : PySem.W.Frag} {M : List Addr} {H : Hp} {Q : VK} {x y : V} {d e : PyData} (h1 : Dv M H x d) (h2 : Dv M H y e) (s1 : nice 63 d = true) (s2 : nice 63 e = true) (q : Q (.bl (!PyData.eqv d e)) H) : rNeD K x y H Q := r_neD h1.dp h2.dp (nice.shaped s1 (by decide)) (nice.shaped s2 (by decide)) q
/-- a test of data -/
def spB (n : Nat) (f : PyData → Bool) : Sp := fun vs H Q _ => ∃ (M : List Addr) (v : V) (d : PyData), vs = [v] ∧ Dv M H v d ∧ fine n d = true ∧ ∀ H', Ex H H' → Q (.bl (f d)) H'
def spRis (K : PySem.W.Frag) : Sp := fun vs H Q _ => ∃ (a : Addr) (ss : List Str), vs = [.ref a] ∧ (H a = some (.tup (ss.map V.str)) ∨ H a = some (.lst (ss.map V.str))) ∧ ss.length ≤ 1000 ∧ ∀ H', Ex H H' → Q (.bl (risS ss)) H'
def spRNames : Sp := fun vs H Q _ => ∃ (M : List Addr) (a : Addr) (xs : List V) (ds : List PyData), vs = [.ref a] ∧ H a = some (.lst xs) ∧ Rel M H xs ds ∧ ds.length ≤ 1000 ∧ (∀ d ∈ ds, fine 62 d = true) ∧ ∀ H', Ex H H' → Q (.bl (ds.all isNameD && unlike (ds.map strOf))) H'
theorem zip_len1 (ss : List Str) : (ss.drop 1).length ≤ ss.length := by rw [List.length_drop]; omega
theorem zip_at {ss : List Str} {i : Nat} {x y : V} (hx : (ss.map V.str)[i]? = some x) (hy : ((ss.drop 1).map V.str)[i]? = some y) : ∃ a b, x = .str a ∧ y = .str b ∧ (ss.zip (ss.drop 1))[i]? = some (a, b) := by
  obtain ⟨a, ha, rfl⟩ := map_some hx
  obtain ⟨b, hb, rfl⟩ := map_some hy
  exact ⟨a, b, rfl, rfl, List.getElem?_zip_eq_some.mpr ⟨ha, hb⟩⟩
/-! ### comprehensions over zip, the second one shorter -/
section
variable {K : PySem.W.Frag} {σ : L2.St} {H : Hp} {v : V} {tt : TT} {te : TE} {g : TG} {vs : List Nat} {Q : VK}
theorem lcZL2 {a b : Addr} {xs ys : List V} (hz : ys.length ≤ xs.length) (P : Nat → List V → Addr → Hp → Prop) (h0 : ∀ D H2, H D = none → Ex H H2 → H2 D = some (.lst []) → P 0 [] D H2) (hl : ∀ i acc D H', i ≤ ys.length → P i acc D H' → SqL K H' a xs ∧ SqL K H' b ys)
    (hs : ∀ i x y acc D H' T H2, xs[i]? = some x → ys[i]? = some y → acc.length ≤ i → H D = none → H2 D = some (.lst acc) → P i acc D H' → Ex H' H2 → H2 T = some (.tup [x, y]) → g (.ref T) (wipe σ vs) H2 (kTurn tt te vs P D i σ))
    (hd : ∀ acc D H', acc.length ≤ ys.length → H D = none → H' D = some (.lst acc) → P ys.length acc D H' → Q (.ref D) H') : LcW (Itz K a b) g tt te vs σ Q H := by
  intro D hD
  refine ⟨fun i m H' => m = ys.length - i ∧ i ≤ ys.length ∧ Pc P D i H', ⟨ys.length, by simp, Nat.zero_le _, [], Nat.le_refl _, upd_same, h0 D _ hD (Ex.new hD) upd_same⟩, ?_⟩
  rintro i m H' ⟨rfl, hi, acc, h1, h2, p⟩
  obtain ⟨q1, q2⟩ := hl i acc D H' hi p
  by_cases hlt : i < ys.length
  · have hlt2 : i < xs.length := by omega
    have hx : xs[i]? = some xs[i] := List.getElem?_eq_getElem hlt2
    have hy : ys[i]? = some ys[i] := List.getElem?_eq_getElem hlt
    refine .inr ⟨⟨xs, ys, _, _, q1, q2, hx, hy⟩, Pc P D (i + 1), fun H'' p' => ⟨ys.length - (i + 1), by omega, rfl, hlt, p'⟩, fun w H'' y => ?_⟩
    obtain ⟨T, x', y', rfl, hT, rfl, f1, f2⟩ := y
    exact hs i x' y' acc D H' T _ (f1 xs q1) (f2 ys q2) h1 hD (Ex.at (Ex.new hT) h2) p (Ex.new hT) upd_same
  · have e : i = ys.length := by omega
    subst e
    exact .inl ⟨⟨xs, ys, q1, q2, Or.inr (Nat.le_refl _)⟩, hd acc D H' h1 hD h2 p⟩
theorem lcZT2 {a b : Addr} {xs ys : List V} (hz : ys.length ≤ xs.length) (P : Nat → List V → Addr → Hp → Prop) (h0 : ∀ D H2, H D = none → Ex H H2 → H2 D = some (.lst []) → P 0 [] D H2) (hl : ∀ i acc D H', i ≤ ys.length → P i acc D H' → SqT K H' a xs ∧ SqT K H' b ys)
    (hs : ∀ i x y acc D H' T H2, xs[i]? = some x → ys[i]? = some y → acc.length ≤ i → H D = none → H2 D = some (.lst acc) → P i acc D H' → Ex H' H2 → H2 T = some (.tup [x, y]) → g (.ref T) (wipe σ vs) H2 (kTurn tt te vs P D i σ))
    (hd : ∀ acc D H', acc.length ≤ ys.length → H D = none → H' D = some (.lst acc) → P ys.length acc D H' → Q (.ref D) H') : LcW (RZ.ItzT K a b) g tt te vs σ Q H := by
  intro D hD
  refine ⟨fun i m H' => m = ys.length - i ∧ i ≤ ys.length ∧ Pc P D i H', ⟨ys.length, by simp, Nat.zero_le _, [], Nat.le_refl _, upd_same, h0 D _ hD (Ex.new hD) upd_same⟩, ?_⟩
  rintro i m H' ⟨rfl, hi, acc, h1, h2, p⟩
  obtain ⟨q1, q2⟩ := hl i acc D H' hi p
  by_cases hlt : i < ys.length
  · have hlt2 : i < xs.length := by omega
    have hx : xs[i]? = some xs[i] := List.getElem?_eq_getElem hlt2
    have hy : ys[i]? = some ys[i] := List.getElem?_eq_getElem hlt
    refine .inr ⟨⟨xs, ys, _, _, q1, q2, hx, hy⟩, Pc P D (i + 1), fun H'' p' => ⟨ys.length - (i + 1), by omega, rfl, hlt, p'⟩, fun w H'' y => ?_⟩
    obtain ⟨T, x', y', rfl, hT, rfl, f1, f2⟩ := y
    exact hs i x' y' acc D H' T _ (f1 xs q1) (f2 ys q2) h1 hD (Ex.at (Ex.new hT) h2) p (Ex.new hT) upd_same
  · have e : i = ys.length := by omega
    subst e
    exact .inl ⟨⟨xs, ys, q1, q2, Or.inr (Nat.le_refl _)⟩, hd acc D H' h1 hD h2 p⟩
end
theorem tail_map (ss : List Str) : (ss.map V.str).drop 1 = (ss.drop 1).map V.str := by rw [List.map_drop]
theorem zip_full (ss : List Str) : (ss.zip (ss.drop 1)).take (ss.drop 1).length = ss.zip (ss.drop 1) := by
  apply List.take_of_length_le
  rw [List.length_zip, List.length_drop]; omega
/-! ### skips and rows of skips -/
mutual
def skipsD : PyData → Bool
  | .tuple ds => skT ds
  | _ => false
def skT : List PyData → Bool
  | [.str w, .tuple ds] => decide (w = "row") && skAll ds
  | [.str w] => decide (w = "skip")
  | _ => false
def skAll : List PyData → Bool
  | [] => true
  | d :: ds => skipsD d && skAll ds
end
theorem skAll_iff : ∀ {ds : List PyData}, skAll ds = ds.all skipsD
  | [] => by rw [skAll]; rfl
  | d :: ds => by rw [skAll, skAll_iff, List.all_cons]
def badL : List Str := ["if", "loop", "local", "call", "uncall", "plus", "minus", "mix", "times", "turn", "swap", "push", "pop", "send", "take"]
def okHead : PyData → Bool
  | .str w => !wIn w badL
  | _ => true
def headOk : List PyData → Bool
  | [] => true
  | d :: _ => okHead d
mutual
def noBad : PyData → Bool
  | .tuple ds => headOk ds && noAll ds
  | _ => true
def noAll : List PyData → Bool
  | [] => true
  | d :: ds => noBad d && noAll ds
end
theorem noAll_iff : ∀ {ds : List PyData}, noAll ds = true ↔ ∀ d ∈ ds, noBad d = true
  | [] => by simp [noAll]
  | d :: ds => by rw [noAll, Bool.and_eq_true, noAll_iff, List.forall_mem_cons]
theorem noBad_tup {ds : List PyData} : noBad (.tuple ds) = true ↔ headOk ds = true ∧ ∀ d ∈ ds, noBad d = true := by rw [noBad, Bool.and_eq_true, noAll_iff]
/-- where no bad word stands at a tuple's head: statements are skips and rows of skips -/
theorem bad_here {w : Str} {as : List PyData} (h : wIn w badL = false) (hr : hereR w as = true) : (w = "skip" ∧ as = []) ∨ (w = "row" ∧ ∃ ds, as = [.tuple ds]) := by
  have no : ∀ ss : List Str, (∀ s ∈ ss, s ∈ badL) → wIn w ss = false := fun ss hs => by
    cases e : wIn w ss with
    | false => rfl
    | true =>
      have hm := hs w (wIn_mem e)
      have hi : wIn w badL = true := by
        simp only [badL, List.mem_cons, List.not_mem_nil, or_false] at hm
        rcases hm with rfl | rfl | rfl | rfl | rfl | rfl | rfl | rfl | rfl | rfl | rfl | rfl | rfl | rfl | rfl <;> decide +kernel
      rw [hi] at h; cases h
  have ne : ∀ s ∈ badL, w ≠ s := fun s hs e => by
    have := no [s] (fun t ht => by rw [List.mem_singleton.mp ht]; exact hs)
    rw [e] at this
    simp only [badL, List.mem_cons, List.not_mem_nil, or_false] at hs
    rcases hs with rfl | rfl | rfl | rfl | rfl | rfl | rfl | rfl | rfl | rfl | rfl | rfl | rfl | rfl | rfl <;> revert this <;> decide +kernel
  have n1 := no ["if", "loop"] (by decide)
  have n2 := ne "local" (by decide)
  have n3 := no ["call", "uncall"] (by decide)
  unfold hereR at hr
  simp only [n1, n2, n3, if_false, Bool.false_eq_true] at hr
  by_cases hrow : w = "row"
  · rw [if_pos hrow] at hr
    refine .inr ⟨hrow, ?_⟩
    split at hr
    · exact ⟨_, rfl⟩
    · cases hr
  · rw [if_neg hrow] at hr
    unfold plainR at hr
    by_cases hs : w = "skip"
    · rw [if_pos hs] at hr
      exact .inl ⟨hs, by simpa using hr⟩
    · rw [if_neg hs, no ["plus", "minus", "mix"] (by decide), if_neg (by decide), no ["times", "turn"] (by decide), if_neg (by decide), if_neg (ne "swap" (by decide)), no ["push", "pop", "send", "take"] (by decide)] at hr
      cases hr
theorem stAll_bound {n : Nat} : ∀ {ds : List PyData}, (∀ d ∈ ds, (skipsD d = true → ∃ s m, stD d = some (s, m) ∧ s ≤ tupsD d ∧ m ≤ n) ∧ (skipsD d = false → stD d = none)) →
    (skAll ds = true → ∃ s m, stAll ds = some (s, m) ∧ s ≤ tupsAll ds ∧ m ≤ n) ∧ (skAll ds = false → stAll ds = none)
  | [], _ => ⟨fun _ => ⟨0, 0, rfl, Nat.zero_le _, Nat.zero_le _⟩, fun h => by cases h⟩
  | d :: ds, h => by
    obtain ⟨h1, h2⟩ := h d List.mem_cons_self
    obtain ⟨i1, i2⟩ := stAll_bound fun e he => h e (List.mem_cons_of_mem _ he)
    refine ⟨fun hk => ?_, fun hk => ?_⟩
    · rw [skAll, Bool.and_eq_true] at hk
      obtain ⟨s, m, e1, l1, k1⟩ := h1 hk.1
      obtain ⟨s', m', e2, l2, k2⟩ := i1 hk.2
      refine ⟨s + s', max m m', by rw [stAll, e1, e2]; rfl, by rw [tupsAll]; omega, by omega⟩
    · rw [skAll] at hk
      rw [stAll]
      by_cases e : skipsD d = true
      · rw [e, Bool.true_and] at hk
        rw [i2 hk]
        cases stD d with
        | none => rfl
        | some x => rfl
      · rw [h2 (by simpa using e)]
        rfl
theorem st_skips : ∀ (n : Nat) (d : PyData), okD n d = true → noBad d = true → (skipsD d = true → ∃ s m, stD d = some (s, m) ∧ s ≤ tupsD d ∧ m ≤ n) ∧ (skipsD d = false → stD d = none)
  | 0, d, ho, _ => by
    cases d <;> first | (simp [okD] at ho; done) | exact ⟨fun h => (by simp [skipsD] at h), fun _ => (by simp [stD])⟩
  | n + 1, d, ho, hn => by
    cases d with
    | tuple ds =>
      simp only [okD, Bool.and_eq_true, List.all_eq_true] at ho
      obtain ⟨hh, ha⟩ := noBad_tup.mp hn
      rcases ds with _ | ⟨x, as⟩
      · exact ⟨fun h => (by simp [skipsD, skT] at h), fun _ => (by simp [stD, stT])⟩
      cases x with
      | str w =>
        have hw : wIn w badL = false := by
          have h' : (!wIn w badL) = true := hh
          simpa using h'
        by_cases hr : hereR w as = true
        · rcases bad_here hw hr with ⟨rfl, rfl⟩ | ⟨rfl, es, rfl⟩
          · refine ⟨fun _ => ⟨1, 1, by rw [stD, stT, if_pos hr]; simp [stIn, up], by rw [tupsD]; omega, by omega⟩, fun h => ?_⟩
            rw [skipsD, skT] at h
            cases h
          · have hm : PyData.tuple es ∈ [PyData.str "row", .tuple es] := by simp
            obtain ⟨m, rfl⟩ : ∃ m, n = m + 1 := by
              have := ho.2 _ hm
              cases n with
              | zero => simp [okD] at this
              | succ m => exact ⟨m, rfl⟩
            have ho2 := ho.2 _ hm
            simp only [okD, Bool.and_eq_true, List.all_eq_true] at ho2
            have hn2 := ha _ hm
            obtain ⟨_, ha2⟩ := noBad_tup.mp hn2
            obtain ⟨i1, i2⟩ := stAll_bound (n := m) fun e he => st_skips m e (ho2.2 e he) (ha2 e he)
            have e1 : stD (.tuple [.str "row", .tuple es]) = up (stAll es) := by rw [stD, stT, if_pos hr]; simp [stIn]
            have e2 : skipsD (.tuple [.str "row", .tuple es]) = skAll es := by rw [skipsD, skT]; simp
            rw [e1, e2]
            refine ⟨fun h => ?_, fun h => by rw [i2 h]; rfl⟩
            obtain ⟨s, k, e3, l1, l2⟩ := i1 h
            rw [e3]
            refine ⟨1 + s, 1 + k, rfl, ?_, by omega⟩
            show 1 + s ≤ 1 + (0 + ((1 + tupsAll es) + 0))
            omega
        · have hs : skipsD (.tuple (.str w :: as)) = false := by
            rw [skipsD]
            unfold skT
            split
            · next w' es e =>
              cases e
              by_cases hw' : w = "row"
              · subst hw'
                exact absurd (by rfl : hereR "row" [.tuple es] = true) hr
              · simp [hw']
            · next w' e =>
              cases e
              by_cases hw' : w = "skip"
              · subst hw'
                exact absurd (by decide +kernel) hr
              · simp [hw']
            · rfl
          rw [hs]
          exact ⟨fun h => (by cases h), fun _ => (by rw [stD, stT, if_neg hr])⟩
      | _ => exact ⟨fun h => (by simp [skipsD, skT] at h), fun _ => (by simp [stD, stT])⟩
    | _ => exact ⟨fun h => (by simp [skipsD] at h), fun _ => (by simp [stD])⟩
theorem right_skips {n : Nat} {d : PyData} (h : okD n d = true) (hn : n ≤ 20) (hb : noBad d = true) (ht : tupsD d ≤ 400) : rightSt d = skipsD d := by
  obtain ⟨h1, h2⟩ := st_skips n d h hb
  unfold rightSt
  cases e : skipsD d with
  | false => rw [h2 e]
  | true =>
    obtain ⟨s, m, e1, l1, l2⟩ := h1 e
    rw [e1]
    simp
    omega
end BkG
end
section
namespace BkG
open PySem PySem.Spec L2 TL
/-! ### a value with one tuple in it changed: just how -/
def nearOf (es : List PyData) (x : PyData) : Prop :=
  x = .list es ∨ x = .tuple (es ++ [.none]) ∨ x = .none ∨ x = .int 0 ∨ x = .str "skip" ∨ (∃ j, x = .tuple (es.take j)) ∨ x = .tuple (es.take 1 ++ [.bool true] ++ es.drop 2) ∨ x = .tuple (es.take 1 ++ [.str "Q"] ++ es.drop 2)
def NearD (d d' : PyData) : Prop := d' = d ∨ ∃ ws es x, wayOk d ws ∧ partD d ws = .tuple es ∧ nearOf es x ∧ d' = putD d ws x
def spNearX : Sp := fun vs H Q _ => ∃ (D L : Addr) (M : List Addr) (v : V) (d : PyData) (n b : Nat), vs = [.ref D, v] ∧ (∀ a ∈ M, H a ≠ none) ∧ Dv (D :: L :: M) H v d ∧ fine n d = true ∧ n ≤ 62 ∧ thinD b d = true ∧ b ≤ 900 ∧ tupsD d ≤ 5000 ∧ Deal H D L ∧
  ∀ (v : V) (d' : PyData) (H' : Hp), Dv (D :: L :: M) H' v d' → NearD d d' → fine n d' = true → thinD (b + 1) d' = true → tupsD d' ≤ tupsD d → Deal H' D L → Kp [D, L] H H' → Q v H'
theorem cut_rel0 {M : List Addr} {H : Hp} {xs : List V} {es : List PyData} (r : Rel M H xs es) (hi : Option Int) : ∃ j, Rel M H (cutV xs none hi) (es.take j) := by
  unfold cutV
  rw [HT.sIx_none]
  exact ⟨_, by simpa using (r.drop 0).take _⟩
theorem head_sub {es fs : List PyData} (h : headOk es = true) (e : fs.head? = es.head? ∨ fs = []) : headOk fs = true := by
  rcases e with e | e
  · cases fs with
    | nil => rfl
    | cons a r => cases es with
      | nil => cases e
      | cons b s => cases e; exact h
  · rw [e]; rfl
theorem near_part {es : List PyData} {x : PyData} (h : nearOf es x) (hh : headOk es = true) (ha : ∀ d ∈ es, noBad d = true) : noBad x = true ∧ okHead x = true := by
  have sec : ∀ y : PyData, noBad y = true → okHead y = true → noBad (.tuple (es.take 1 ++ [y] ++ es.drop 2)) = true := fun y hy hy' => noBad_tup.mpr ⟨by
    rcases es with _ | ⟨a, r⟩
    · exact hy'
    · exact hh, fun d hd => by
    simp only [List.mem_append, List.mem_singleton] at hd
    rcases hd with (hd | rfl) | hd
    · exact ha d (List.mem_of_mem_take hd)
    · exact hy
    · exact ha d (List.mem_of_mem_drop hd)⟩
  rcases h with rfl | rfl | rfl | rfl | rfl | ⟨j, rfl⟩ | rfl | rfl
  · exact ⟨rfl, rfl⟩
  · refine ⟨noBad_tup.mpr ⟨?_, fun d hd => ?_⟩, rfl⟩
    · rcases es with _ | ⟨a, r⟩
      · rfl
      · exact hh
    · rcases List.mem_append.mp hd with hd | hd
      · exact ha d hd
      · rw [List.mem_singleton.mp hd]; rfl
  · exact ⟨rfl, rfl⟩
  · exact ⟨rfl, rfl⟩
  · exact ⟨rfl, by decide +kernel⟩
  · refine ⟨noBad_tup.mpr ⟨?_, fun d hd => ha d (List.mem_of_mem_take hd)⟩, rfl⟩
    rcases es with _ | ⟨a, r⟩
    · simp [headOk]
    · cases j with
      | zero => rfl
      | succ j => exact hh
  · exact ⟨sec _ rfl rfl, rfl⟩
  · exact ⟨sec _ rfl (by decide +kernel), rfl⟩
theorem part_noBad : ∀ {ws : List Nat} {d : PyData}, noBad d = true → wayOk d ws → noBad (partD d ws) = true
  | [], d, h, _ => by rw [partD_nil]; exact h
  | a :: ws, d, h, hw => by
    obtain ⟨ds, rfl⟩ := hw.tup
    obtain ⟨e, he, hw'⟩ := hw
    rw [partD_cons he]
    exact part_noBad ((noBad_tup.mp h).2 e (List.mem_of_getElem? he)) hw'
theorem put_noBad : ∀ {ws : List Nat} {d x : PyData}, noBad d = true → wayOk d ws → noBad x = true → okHead x = true → noBad (putD d ws x) = true ∧ okHead (putD d ws x) = true
  | [], d, x, h, _, hx, hy => by rw [putD_nil]; exact ⟨hx, hy⟩
  | a :: ws, d, x, h, hw, hx, hy => by
    obtain ⟨ds, rfl⟩ := hw.tup
    obtain ⟨e, he, hw'⟩ := hw
    rw [putD_cons he]
    obtain ⟨h1, h2⟩ := noBad_tup.mp h
    obtain ⟨i1, i2⟩ := put_noBad (h2 e (List.mem_of_getElem? he)) hw' hx hy
    refine ⟨noBad_tup.mpr ⟨?_, fun y hy => ?_⟩, rfl⟩
    · cases a with
      | zero => exact i2
      | succ a =>
        rcases ds with _ | ⟨b, r⟩
        · cases he
        · exact h1
    · rcases put_mem (e := e) hy with hy | rfl
      · exact h2 y hy
      · exact i1
theorem near_noBad {d d' : PyData} (h : NearD d d') (hb : noBad d = true) : noBad d' = true := by
  rcases h with rfl | ⟨ws, es, x, hw, hp, hx, rfl⟩
  · exact hb
  · have h1 := part_noBad hb hw
    rw [hp] at h1
    obtain ⟨i1, i2⟩ := noBad_tup.mp h1
    obtain ⟨j1, j2⟩ := near_part hx i1 i2
    exact (put_noBad hb hw j1 j2).1
/-! ### where both sides agree -/
/-- plain enough for both to agree -/
def Good (n : Nat) (d : PyData) : Prop := fine n d = true ∧ thinD 90 d = true ∧ tupsD d ≤ 400 ∧ noBad d = true
theorem Good.mono {n m : Nat} {d : PyData} (h : Good n d) (l : n ≤ m) : Good m d := ⟨fine.mono h.1 l, h.2⟩
theorem Good.tup_in {n : Nat} {ds : List PyData} {d : PyData} (h : Good (n + 1) (.tuple ds)) (hd : d ∈ ds) : Good n d :=
  ⟨fine.tup_in h.1 hd, (thin_tup.mp h.2.1).2 d hd, by
    have h1 := h.2.2.1
    rw [tupsD] at h1
    have := tupsD_in hd
    omega, (noBad_tup.mp h.2.2.2).2 d hd⟩
theorem proc_eq {n : Nat} {d : PyData} (h : okD n d = true) (hn : n ≤ 20) (hb : noBad d = true) (ht : tupsD d ≤ 400) : procG rightSt d = procG skipsD d := by
  unfold procG
  split
  · next p m ps b =>
    cases n with
    | zero => simp [okD] at h
    | succ n =>
    simp only [okD, Bool.and_eq_true, List.all_eq_true] at h
    have hm : b ∈ [p, m, ps, b] := by simp
    rw [right_skips (n := n) (h.2 b hm) (by omega) ((noBad_tup.mp hb).2 b hm) (by
      rw [tupsD] at ht
      have := tupsD_in hm
      omega)]
  · rfl
theorem all_congr {α : Type} {f g : α → Bool} : ∀ {l : List α}, (∀ x ∈ l, f x = g x) → l.all f = l.all g
  | [], _ => rfl
  | x :: l, h => by rw [List.all_cons, List.all_cons, h x List.mem_cons_self, all_congr fun y hy => h y (List.mem_cons_of_mem _ hy)]
theorem module_eq {n : Nat} {d : PyData} (h : okD n d = true) (hn : n ≤ 20) (hb : noBad d = true) (ht : tupsD d ≤ 400) : moduleG rightSt d = moduleG skipsD d := by
  unfold moduleG
  split
  · next m nm w nd ps =>
    have hm : ps ∈ [m, nm, w, nd, ps] := by simp
    cases n with
    | zero => simp [okD] at h
    | succ n =>
    simp only [okD, Bool.and_eq_true, List.all_eq_true] at h
    have h1 := h.2 ps hm
    have h2 := (noBad_tup.mp hb).2 ps hm
    have h3 : tupsD ps ≤ 400 := by
      rw [tupsD] at ht
      have := tupsD_in hm
      omega
    rw [show procsG rightSt ps = procsG skipsD ps by
      cases ps with
      | tuple ds =>
        cases n with
        | zero => simp [okD] at h1
        | succ n =>
        simp only [okD, Bool.and_eq_true, List.all_eq_true] at h1
        have e := all_congr (l := ds) (f := procG rightSt) (g := procG skipsD) fun e he => proc_eq (n := n) (h1.2 e he) (by omega) ((noBad_tup.mp h2).2 e he) (by
          rw [tupsD] at h3
          have := tupsD_in he
          omega)
        show (decide (1 ≤ ds.length ∧ ds.length ≤ 40) && (ds.all (procG rightSt) && unlike (ds.map secS))) = (decide (1 ≤ ds.length ∧ ds.length ≤ 40) && (ds.all (procG skipsD) && unlike (ds.map secS)))
        rw [e]
      | _ => rfl]
  · rfl
end BkG
end
section
namespace BkG
open PySem PySem.Spec L2 TL
/-! ### [0 for d in ds if not f d] == [], != [] -/
def zerosV (f : PyData → Bool) (ds : List PyData) : List V := (ds.filter fun d => !f d).map fun _ => V.int 0
theorem zeros_len {f : PyData → Bool} {ds : List PyData} : (zerosV f ds).length ≤ ds.length := by rw [zerosV, List.length_map]; exact List.length_filter_le _ _
theorem zeros_yes {f : PyData → Bool} {ds : List PyData} {i : Nat} {d : PyData} (h : ds[i]? = some d) (e : f d = false) : zerosV f (ds.take (i + 1)) = zerosV f (ds.take i) ++ [.int 0] := by
  rw [zerosV, zerosV, filter_take h, if_pos (by rw [e]; rfl), List.map_append]; rfl
theorem zeros_no {f : PyData → Bool} {ds : List PyData} {i : Nat} {d : PyData} (h : ds[i]? = some d) (e : f d = true) : zerosV f (ds.take (i + 1)) = zerosV f (ds.take i) := by
  rw [zerosV, zerosV, filter_take h, if_neg (by rw [e]; decide), List.append_nil]
theorem zeros_dv {H : Hp} {p : Addr} {f : PyData → Bool} {ds : List PyData} (h : H p = some (.lst (zerosV f ds))) : Dv [] H (.ref p) (.list ((ds.filter fun d => !f d).map fun _ => PyData.int 0)) := by
  refine .lst h (by simp) (by simp [zerosV]) fun i v d h1 h2 => ?_
  obtain ⟨x, e1, rfl⟩ := map_some h1
  obtain ⟨y, e2, rfl⟩ := map_some h2
  exact .int 0
theorem zeros_nice {f : PyData → Bool} {ds : List PyData} (l : ds.length ≤ 90000) : nice 63 (.list ((ds.filter fun d => !f d).map fun _ => PyData.int 0)) = true := by
  refine nice.lst (n := 62) ?_ fun d hd => ?_
  · rw [List.length_map]
    exact Nat.le_trans (List.length_filter_le _ _) l
  · obtain ⟨x, _, rfl⟩ := List.mem_map.mp hd
    rfl
theorem zeros_empty {f : PyData → Bool} {ds : List PyData} : ((ds.filter fun d => !f d).map fun _ => PyData.int 0).isEmpty = ds.all f := by rw [isEmpty_map2', isEmpty_filterD]
theorem eq_zeros {K : PySem.W.Frag} {H : Hp} {Q : VK} {p p5 : Addr} {ds : List PyData} {f : PyData → Bool} (h : H p = some (.lst (zerosV f ds))) (h5 : H p5 = some (.lst [])) (l : ds.length ≤ 90000) (q : Q (.bl (ds.all f)) H) : rEqD K (.ref p) (.ref p5) H Q := by
  refine r_eqD2' (zeros_dv h) (dv_nilL h5) (zeros_nice l) (by decide +kernel) ?_
  rw [eqv_nil, zeros_empty]
  exact q
theorem ne_zeros {K : PySem.W.Frag} {H : Hp} {Q : VK} {p p5 : Addr} {ds : List PyData} {f : PyData → Bool} (h : H p = some (.lst (zerosV f ds))) (h5 : H p5 = some (.lst [])) (l : ds.length ≤ 90000) (q : Q (.bl (!ds.all f)) H) : rNeD K (.ref p) (.ref p5) H Q := by
  refine r_neD2' (zeros_dv h) (dv_nilL h5) (zeros_nice l) (by decide +kernel) ?_
  rw [eqv_nil, zeros_empty]
  exact q
/-! ### [d for d in ds if not f d] == [] -/
def Fails (M : List Addr) (H : Hp) (f : PyData → Bool) (ds : List PyData) (acc : List V) : Prop := Rel M H acc (ds.filter fun d => !f d)
theorem Fails.nil {M : List Addr} {H : Hp} {f : PyData → Bool} {ds : List PyData} : Fails M H f (ds.take 0) [] := by rw [Fails, List.take_zero]; exact Rel.nil
theorem Fails.yes {M : List Addr} {H : Hp} {f : PyData → Bool} {ds : List PyData} {i : Nat} {d : PyData} {x : V} {acc : List V} (r : Fails M H f (ds.take i) acc) (h : ds[i]? = some d) (e : f d = false) (hx : Dv M H x d) : Fails M H f (ds.take (i + 1)) (acc ++ [x]) := by
  rw [Fails, filter_take h, if_pos (by rw [e]; rfl)]
  exact Rel.append r (Rel.one hx)
theorem Fails.no {M : List Addr} {H : Hp} {f : PyData → Bool} {ds : List PyData} {i : Nat} {d : PyData} {acc : List V} (r : Fails M H f (ds.take i) acc) (h : ds[i]? = some d) (e : f d = true) : Fails M H f (ds.take (i + 1)) acc := by
  rw [Fails, filter_take h, if_neg (by rw [e]; decide), List.append_nil]
  exact r
theorem eq_fails {K : PySem.W.Frag} {M : List Addr} {H H0 : Hp} {Q : VK} {p p5 : Addr} {ds : List PyData} {f : PyData → Bool} {acc : List V} (r : Fails M H0 f ds acc) (e : Ex H0 H) (h : H p = some (.lst acc)) (h5 : H p5 = some (.lst [])) (hf : ∀ d ∈ ds, fine 63 d = true) (q : Q (.bl (ds.all f)) H) : rEqD K (.ref p) (.ref p5) H Q := by
  have r' := Rel.ex (show Rel M H0 acc _ from r) e
  refine r_eqD (.lst (.of h) (dpAll_of r'.1 fun i v d h1 h2 => (r'.2 i v d h1 h2).dp)) (.lst (.of h5) .nil) (shaped_lst fun d hd => hf d (List.mem_filter.mp hd).1) (by rfl) ?_
  rw [eqv_nil, isEmpty_filterD]
  exact q
/-! ### the law's own skips -/
def spSkips : Nat → Sp
  | 0 => fun _ _ _ _ => False
  | n + 1 => fun vs H Q _ => ∃ (M : List Addr) (v : V) (d : PyData), vs = [v] ∧ Dv M H v d ∧ fine n d = true ∧ n ≤ 62 ∧ ∀ H', Ex H H' → Q (.bl (skipsD d)) H'
theorem eqv_skip {w : Str} {as : List PyData} : PyData.eqv (.tuple (.str w :: as)) (.tuple [.str "skip"]) = (decide (w = "skip") && as.isEmpty) := by
  cases as <;> simp [PyData.eqv, PyData.eqvAll]
  all_goals first | rfl | (rw [Bool.eq_iff_iff]; simp)
end BkG
end
section
namespace BkG
open PySem PySem.Spec L2 TL
/-! ### names, sign by sign -/
def numS (p : Str) (n : Nat) : Str := p ++ Str.ofString (toString ((n : Nat) : Int))
def okSigns (s : Str) : Prop := ∀ c ∈ s.cps.toList, (isLet c || isDig c) = true
theorem sign_lt {c : Nat} (h : (isLet c || isDig c) = true) : c < 0x110000 := by
  simp only [isLet, isDig, Bool.or_eq_true, decide_eq_true_eq] at h
  omega
theorem okSigns.ok {s : Str} (h : okSigns s) : PyData.strOk s = true := by
  unfold PyData.strOk
  rw [Array.all_eq_true']
  intro c hc
  exact decide_eq_true (sign_lt (h c (Array.mem_toList_iff.mpr hc)))
theorem okSigns.add {s : Str} {c : Nat} (h : okSigns s) (hc : (isLet c || isDig c) = true) : okSigns (s ++ ⟨#[c]⟩) := fun d hd => by
  have : (s ++ (⟨#[c]⟩ : Str)).cps.toList = s.cps.toList ++ [c] := by
    show (s.cps ++ #[c]).toList = _
    simp
  rw [this] at hd
  rcases List.mem_append.mp hd with h' | h'
  · exact h d h'
  · rw [List.mem_singleton.mp h']; exact hc
theorem add_len {s : Str} {c : Nat} : (s ++ (⟨#[c]⟩ : Str)).length = s.length + 1 := by
  show (s.cps ++ #[c]).size = _
  simp [Str.length]
theorem okSigns.one {c : Nat} (hc : (isLet c || isDig c) = true) : okSigns ⟨#[c]⟩ := fun d hd => by
  have hd' : d ∈ [c] := hd
  rw [List.mem_singleton.mp hd']; exact hc
theorem name_signs {s : Str} (h : nameS s = true) : okSigns s := by
  unfold nameS at h
  simp only [Bool.and_eq_true, List.all_eq_true] at h
  exact h.2
theorem name_len {s : Str} (h : nameS s = true) : s.length ≤ 12 := by
  unfold nameS at h
  simp only [Bool.and_eq_true, decide_eq_true_eq] at h
  exact h.1.1.1.2
theorem fine_signs {s : Str} (h : okSigns s) (l : s.length ≤ 1000) : fine 0 (.str s) = true := fine.mk (nice.mk rfl h.ok) (decide_eq_true l)
theorem fine_name {s : Str} (h : nameS s = true) : fine 0 (.str s) = true := fine_signs (name_signs h) (Nat.le_trans (name_len h) (by decide))
theorem name_notin {s : Str} (h : nameS s = true) : inV (.str s) wordsV = false := by
  unfold nameS at h
  simp only [Bool.and_eq_true, Bool.not_eq_true'] at h
  exact h.1.1.2
theorem name_good {s : Str} (h : nameS s = true) : okHead (.str s) = true := by
  have hn := name_notin h
  show (!wIn s badL) = true
  cases e : wIn s badL with
  | false => rfl
  | true =>
    have hm := wIn_mem e
    simp only [badL, List.mem_cons, List.not_mem_nil, or_false] at hm
    rcases hm with rfl | rfl | rfl | rfl | rfl | rfl | rfl | rfl | rfl | rfl | rfl | rfl | rfl | rfl | rfl <;> (revert hn; decide +kernel)
theorem nodup_sub_len {α : Type} [DecidableEq α] : ∀ {a b : List α}, a.Nodup → (∀ x ∈ a, x ∈ b) → a.length ≤ b.length
  | [], b, _, _ => Nat.zero_le _
  | x :: a, b, h, s => by
    have hx := s x List.mem_cons_self
    rw [List.nodup_cons] at h
    have := nodup_sub_len (a := a) (b := b.erase x) h.2 fun y hy => by
      have hne : y ≠ x := fun e => h.1 (e ▸ hy)
      exact (List.mem_erase_of_ne hne).mpr (s y (List.mem_cons_of_mem _ hy))
    rw [List.length_erase_of_mem hx] at this
    have := List.length_pos_of_mem hx
    rw [List.length_cons]; omega
theorem q_names : ((List.range 50).all fun n => nameS (numS "q" n)) = true := by decide +kernel
theorem q_nodup : ((List.range 50).map (numS "q")).Nodup := by decide +kernel
theorem q_name {n : Nat} (h : n < 50) : nameS (numS "q" n) = true := List.all_eq_true.mp q_names n (List.mem_range.mpr h)
theorem range_nodup {f : Nat → Str} {N : Nat} (h : ((List.range N).map f).Nodup) {n : Nat} (l : n ≤ N) : ((List.range n).map f).Nodup := by
  have e : (List.range n).map f = ((List.range N).map f).take n := by rw [← List.map_take, List.take_range, Nat.min_eq_left l]
  rw [e]
  exact List.Sublist.nodup (List.take_sublist _ _) h
/-- where all of n texts q.. are found: n are found -/
theorem q_full {n : Nat} {ss : List Str} (hn : n ≤ 50) (h : ∀ i < n, numS "q" i ∈ ss) : n ≤ ss.length := by
  have := nodup_sub_len (range_nodup q_nodup hn) (b := ss) fun x hx => by
    obtain ⟨i, hi, rfl⟩ := List.mem_map.mp hx
    exact h i (List.mem_range.mp hi)
  rwa [List.length_map, List.length_range] at this
def spLetters : Sp := fun vs H Q _ => ∃ (D L : Addr) (n : Nat), vs = [.ref D, .int n] ∧ n ≤ 50 ∧ Deal H D L ∧
  ∀ (p : Addr) (ss : List Str) (H' : Hp), H' p = some (.lst (ss.map V.str)) → ss.length = n → ss.Nodup → (∀ s ∈ ss, nameS s = true) → p ≠ D → p ≠ L → H p = none → Deal H' D L → Kp [D, L] H H' → Q (.ref p) H'
theorem inV_strs {s : Str} {ss : List Str} : inV (.str s) (ss.map V.str) = decide (s ∈ ss) := by
  cases e : inV (.str s) (ss.map V.str) with
  | true => rw [decide_eq_true (wIn_mem e)]
  | false =>
    refine (decide_eq_false fun hm => ?_).symm
    have : inV (.str s) (ss.map V.str) = true := List.any_eq_true.mpr ⟨.str s, List.mem_map.mpr ⟨s, hm, rfl⟩, beq_self_eq_true s⟩
    rw [this] at e; cases e
theorem strs_flat {ss : List Str} : (ss.map V.str).all flatV = true := by
  rw [List.all_eq_true]
  intro x hx
  obtain ⟨s, _, rfl⟩ := List.mem_map.mp hx
  rfl
end BkG
end
section
namespace BkG
open PySem PySem.Spec L2 TL
/-! ### drawn values, plain enough for both sides to agree -/
def Og (H : Hp) (n t : Nat) (v : V) (d : PyData) : Prop := (∀ M, Dv M H v d) ∧ fine n d = true ∧ thinD 90 d = true ∧ tupsD d ≤ t ∧ noBad d = true ∧ okHead d = true
def Oe (H : Hp) (n t : Nat) (v : V) : Prop := ∃ d, Og H n t v d
theorem Oe.kt {H H' : Hp} {n t : Nat} {v : V} (h : Oe H n t v) (k : Kt H H') : Oe H' n t v := let ⟨d, o, r⟩ := h; ⟨d, Dv.allKt k d v o, r⟩
theorem Oe.mono {H : Hp} {n m t u : Nat} {v : V} (h : Oe H n t v) (l : n ≤ m) (k : t ≤ u) : Oe H m u v := let ⟨d, o, f, a, b, c⟩ := h; ⟨d, o, fine.mono f l, a, Nat.le_trans b k, c⟩
theorem Oe.s {H : Hp} {n : Nat} {s : Str} (h : fine 0 (.str s) = true) (g : okHead (.str s) = true) : Oe H n 0 (.str s) := ⟨.str s, fun _ => .str s, fine.mono h (Nat.zero_le _), rfl, Nat.le_refl _, rfl, g⟩
theorem Oe.i {H : Hp} {n : Nat} (z : Int) : Oe H n 0 (.int z) := ⟨.int z, fun _ => .int z, by cases n <;> rfl, rfl, Nat.le_refl _, rfl, rfl⟩
def OgA (H : Hp) (n t : Nat) (ys : List V) : Prop := ∀ y ∈ ys, Oe H n t y
theorem OgA.kt {H H' : Hp} {n t : Nat} {ys : List V} (h : OgA H n t ys) (k : Kt H H') : OgA H' n t ys := fun y hy => (h y hy).kt k
theorem OgA.nil {H : Hp} {n t : Nat} : OgA H n t [] := fun y hy => by cases hy
theorem OgA.append {H : Hp} {n t : Nat} {ys zs : List V} (h : OgA H n t ys) (r : OgA H n t zs) : OgA H n t (ys ++ zs) := fun z hz => by
  rcases List.mem_append.mp hz with hz | hz
  · exact h z hz
  · exact r z hz
theorem OgA.cons {H : Hp} {n t : Nat} {y : V} {ys : List V} (h : Oe H n t y) (r : OgA H n t ys) : OgA H n t (y :: ys) := fun z hz => by
  rcases List.mem_cons.mp hz with rfl | hz
  · exact h
  · exact r z hz
theorem OgA.sub {H : Hp} {n t : Nat} {ys zs : List V} (h : OgA H n t ys) (s : ∀ z ∈ zs, z ∈ ys) : OgA H n t zs := fun z hz => h z (s z hz)
def OeL (H : Hp) (n : Nat) : List V → List Nat → Prop
  | [], [] => True
  | y :: ys, t :: ts => Oe H n t y ∧ OeL H n ys ts
  | _, _ => False
theorem oel_rel {H : Hp} {n : Nat} : ∀ {ys : List V} {ts : List Nat}, OeL H n ys ts → ∃ ds : List PyData, (∀ M, Rel M H ys ds) ∧ (∀ d ∈ ds, fine n d = true ∧ thinD 90 d = true ∧ noBad d = true ∧ okHead d = true) ∧ tupsAll ds ≤ ts.sum ∧ ds.length = ys.length
  | [], [], _ => ⟨[], fun _ => Rel.nil, by simp, Nat.zero_le _, rfl⟩
  | y :: ys, t :: ts, h => by
    obtain ⟨⟨d, o, f, a, b, c, e⟩, h2⟩ := h
    obtain ⟨ds, h3, h4, h5, h6⟩ := oel_rel h2
    refine ⟨d :: ds, fun M => (h3 M).cons (o M), fun x hx => ?_, by rw [tupsAll, List.sum_cons]; omega, by rw [List.length_cons, List.length_cons, h6]⟩
    rcases List.mem_cons.mp hx with rfl | hx
    · exact ⟨f, a, c, e⟩
    · exact h4 x hx
theorem OeL.tup {H : Hp} {n u : Nat} {p : Addr} {ys : List V} {ts : List Nat} (h : H p = some (.tup ys)) (o : OeL H n ys ts) (l : ys.length ≤ 90) (ht : 1 + ts.sum ≤ u) : Oe H (n + 1) u (.ref p) := by
  obtain ⟨ds, h1, h2, h3, h4⟩ := oel_rel o
  refine ⟨.tuple ds, fun M => (h1 M).tup h, fine.tup (by omega) fun d hd => (h2 d hd).1, thin_tup.mpr ⟨by omega, fun d hd => (h2 d hd).2.1⟩, by rw [tupsD]; omega, noBad_tup.mpr ⟨?_, fun d hd => (h2 d hd).2.2.1⟩, rfl⟩
  cases ds with
  | nil => rfl
  | cons d r => exact (h2 d List.mem_cons_self).2.2.2
theorem oga_oel {H : Hp} {n t : Nat} : ∀ {ys : List V}, OgA H n t ys → OeL H n ys (List.replicate ys.length t)
  | [], _ => trivial
  | y :: ys, h => ⟨h y List.mem_cons_self, oga_oel fun z hz => h z (List.mem_cons_of_mem _ hz)⟩
theorem OgA.tup {H : Hp} {n t u : Nat} {p : Addr} {ys : List V} (h : H p = some (.tup ys)) (o : OgA H n t ys) (l : ys.length ≤ 90) (ht : 1 + ys.length * t ≤ u) : Oe H (n + 1) u (.ref p) :=
  OeL.tup h (oga_oel o) l (by rw [List.sum_replicate_nat]; exact ht)
theorem spOf_oe {E : XK} {H : Hp} {Q : VK} {D L l : Addr} {n t : Nat} {ys : List V} (hd : Deal H D L) (hl : H l = some (.lst ys)) (n1 : l ≠ D) (n2 : l ≠ L) (h0 : 0 < ys.length) (h9 : ys.length ≤ 90000) (o : OgA H n t ys)
    (q : ∀ (v : V) (H' : Hp), Oe H' n t v → Deal H' D L → Kp [D, L] H H' → Kt H H' → Q v H') : spOf [.ref D, .ref l] H Q E :=
  ⟨D, L, l, ys, rfl, hd, hl, n1, n2, h0, h9, fun i x H' hx d' k' => q x H' ((o x (List.mem_of_getElem? hx)).kt (Kt.of_kp k' hd)) d' k' (Kt.of_kp k' hd)⟩
def goodNum (p : Str) : Bool := (List.range 42).all fun n => fine 0 (.str (numS p n)) && okHead (.str (numS p n))
theorem num_good {p : Str} (h : goodNum p = true) {n t : Nat} {H : Hp} (l : n < 42) : Oe H t 0 (.str (numS p n)) := by
  have := List.all_eq_true.mp h n (List.mem_range.mpr l)
  rw [Bool.and_eq_true] at this
  exact .s this.1 this.2
theorem x_good : goodNum "x" = true := by decide +kernel
theorem p_good : goodNum "p" = true := by decide +kernel
theorem n_good : goodNum "n" = true := by decide +kernel
theorem f_good : goodNum "f" = true := by decide +kernel
theorem f_nodup : ((List.range 42).map (numS "f")).Nodup := by decide +kernel
theorem num_log {i : Nat} (h : i < 100) : ((i : Int)).natAbs.log2 < 1920 := by
  rw [Int.natAbs_natCast]
  exact Nat.lt_of_le_of_lt (Nat.log2_le_self i) (by omega)
theorem num_len {p : Str} {i : Nat} (h : (numS p i).length ≤ 1000) : p.length + (Str.ofString (toString ((i : Nat) : Int))).length ≤ 100000 := by
  have : (numS p i).length = p.length + (Str.ofString (toString ((i : Nat) : Int))).length := by
    show (_ ++ _ : Array Nat).size = _
    simp [Str.length]
  omega
theorem num_short {p : Str} (h : goodNum p = true) {n : Nat} (l : n < 42) : p.length + (Str.ofString (toString ((n : Nat) : Int))).length ≤ 100000 := by
  have := List.all_eq_true.mp h n (List.mem_range.mpr l)
  rw [Bool.and_eq_true] at this
  exact num_len (fine.shortS this.1 _ rfl)
theorem sortF {K : PySem.W.Frag} {H : Hp} {Q : VK} {a : Addr} {ts : List Addr} {ss : List Str} (h : H a = some (.lst (ts.map V.ref))) (hl : ts.length = ss.length) (hn : ss.Nodup)
    (hf : ∀ (j : Nat) (t : Addr) (s : Str), ts[j]? = some t → ss[j]? = some s → ∃ i r, H t = some (.tup [.str "face", .str s, i, r]))
    (q : ∀ ys p H2, ys.Perm (ts.map V.ref) → H p = none → Ex H H2 → H2 p = some (.lst ys) → Q (.ref p) H2) : rSortedF K [.ref a] H Q := by
  have at' : ∀ t, V.ref t ∈ ts.map V.ref → ∃ j s, ts[j]? = some t ∧ ss[j]? = some s := fun t ht => by
    obtain ⟨t', ht', e⟩ := List.mem_map.mp ht
    cases e
    obtain ⟨j, hj⟩ := List.getElem?_of_mem ht'
    obtain ⟨s, hs⟩ := get_of_len hl hj
    exact ⟨j, s, hj, hs⟩
  refine ⟨a, ts.map V.ref, "face", rfl, .of h, fun x hx => ?_, fun t t' z i j i' j' ht ht' e e' => ?_, fun ys p hp h' => q ys p _ hp h' (Ex.new h') upd_same⟩
  · obtain ⟨t, ht, rfl⟩ := List.mem_map.mp hx
    obtain ⟨j, s, hj, hs⟩ := at' t hx
    obtain ⟨i, r, e⟩ := hf j t s hj hs
    exact ⟨t, s, i, r, rfl, e⟩
  · obtain ⟨a1, s1, b1, c1⟩ := at' t ht
    obtain ⟨a2, s2, b2, c2⟩ := at' t' ht'
    obtain ⟨i1, r1, e1⟩ := hf a1 t s1 b1 c1
    obtain ⟨i2, r2, e2⟩ := hf a2 t' s2 b2 c2
    rw [e] at e1; rw [e'] at e2
    cases e1; cases e2
    have l1 := (List.getElem?_eq_some_iff.mp c1).1
    have : a1 = a2 := (List.getElem?_inj l1 hn).mp (by rw [c1, c2])
    subst this
    rw [b1] at b2
    cases b2; rfl
def rTupOf (K : PySem.W.Frag) : List V → Hp → VK → Prop := fun xs H Q => ∃ p ys, xs = [.ref p] ∧ ((SqL K H p ys ∧ ∀ l, H l = none → Q (.ref l) (upd H l (.tup ys))) ∨ (SqT K H p ys ∧ Q (.ref p) H))
/-! ### values after a change -/
def Gd (d : PyData) : Prop := fine 10 d = true ∧ tupsD d ≤ 400 ∧ noBad d = true
def VG (M : List Addr) (H : Hp) (y : V) : Prop := ∃ d, Dv M H y d ∧ Gd d
theorem VG.kd {M : List Addr} {H H' : Hp} {y : V} (h : VG M H y) (k : Kd M H H') : VG M H' y := let ⟨d, a, b⟩ := h; ⟨d, a.keep k, b⟩
theorem VG.ex {M : List Addr} {H H' : Hp} {y : V} (h : VG M H y) (k : Ex H H') : VG M H' y := let ⟨d, a, b⟩ := h; ⟨d, a.ex k, b⟩
theorem VG.add {M : List Addr} {H : Hp} {S : Addr} {y : V} (h : VG M H y) (hS : H S = none) : VG (S :: M) H y := let ⟨d, a, b⟩ := h; ⟨d, a.add hS, b⟩
theorem VG.sub {M M' : List Addr} {H : Hp} {y : V} (h : VG M H y) (s : ∀ a, a ∈ M' → a ∈ M) : VG M' H y := let ⟨d, a, b⟩ := h; ⟨d, a.sub s, b⟩
theorem Oe.vg {H : Hp} {n t : Nat} {v : V} (h : Oe H n t v) (hn : n ≤ 10) (ht : t ≤ 400) (M : List Addr) : VG M H v := let ⟨d, o, f, _, b, c, _⟩ := h; ⟨d, o M, fine.mono f hn, Nat.le_trans b ht, c⟩
theorem w_ifJoin {c : Bool} {ta tb : TE} {σ : L2.St} {H : Hp} {Q : VK} (Post : V → Hp → Prop) (h1 : ∀ Q' : VK, (∀ v H', Post v H' → Q' v H') → c = true → ta σ H Q') (h2 : ∀ Q' : VK, (∀ v H', Post v H' → Q' v H') → c = false → tb σ H Q') (key : ∀ v H', Post v H' → Q v H') : if c = true then ta σ H Q else tb σ H Q := by
  refine if_by (fun h => h1 Q key h) (fun h => h2 Q key h)
theorem smD4 : ∀ a b c e : Bool, smD (.list ([a, b, c, e].map PyData.bool)) (.list ([a, b, c, e].map PyData.bool)) = true := by decide
end BkG
end
section
namespace BkL
open PySem PySem.Spec L2 BkG
local macro_rules | `(tactic| walk_at "w1") => `(tactic| first
  | with_reducible refine w_seq ?_ | with_reducible refine w_set ?_ | with_reducible refine w_ret ?_ | with_reducible refine w_drop ?_ | with_reducible refine w_ifS ?_
  | with_reducible refine w_next ?_ | with_reducible refine w_c ?_ | ((with_reducible refine' w_var ?hv ?_); (case hv => rfl)) | with_reducible refine w_op ?_ | with_reducible refine w_cons ?_ | with_reducible refine w_nil ?_
  | with_reducible refine w_cb ?_ | with_reducible refine w_call ?_ | with_reducible refine w_tup ?_ | with_reducible refine w_lst ?_ | with_reducible refine w_bm ?_ | with_reducible refine w_bm0 ?_ | with_reducible refine w_un ?_
  | with_reducible refine w_test ?_ | with_reducible refine w_B ?_ | with_reducible refine k_B ?_ | with_reducible refine w_and ?_ | with_reducible refine w_or ?_ | with_reducible refine w_not ?_ | with_reducible refine w_if ?_
  | with_reducible refine w_andV ?_ | with_reducible refine w_orV ?_ | with_reducible refine w_notV ?_ | with_reducible refine k_andV ?_ | with_reducible refine k_orV ?_ | with_reducible refine k_notV ?_
  | with_reducible refine w_chain ?_ | with_reducible refine ex_bl ?_ | with_reducible refine w_isN ?_ | with_reducible refine w_notN ?_ | with_reducible refine w_yes ?_
  | with_reducible refine r_I0 ?_ | with_reducible refine r_U ?_ | with_reducible refine r_eqI ?_ | with_reducible refine r_neI ?_ | with_reducible refine r_eqS ?_ | with_reducible refine r_neS ?_ | with_reducible refine r_eqB ?_ | with_reducible refine r_neB ?_
  | with_reducible refine r_abs ?_ | with_reducible refine r_int ?_ | with_reducible refine r_intB ?_
  | with_reducible refine w_sl ?_ | with_reducible refine w_nop ?_ | with_reducible refine w_part ?_ | with_reducible refine k_part ?_ | with_reducible refine w_revL ?_
  | with_reducible refine w_asg ?_ | with_reducible refine w_gname ?_ | with_reducible refine w_gsub ?_ | with_reducible refine w_gnil ?_ | with_reducible refine w_gcons ?_ | with_reducible refine w_retN ?_ | with_reducible refine w_brk ?_ | with_reducible refine w_cont ?_
  | with_reducible refine w_par ?_ | with_reducible refine w_par3 ?_ | with_reducible refine par_ok ?_ | with_reducible refine par_ok3 ?_ | ((with_reducible refine' w_aug ?hv ?_); (case hv => rfl)) | with_reducible refine i_I ?_
  | with_reducible refine w_forL ?_ | with_reducible refine w_forT ?_ | with_reducible refine w_forR1 ?_ | with_reducible refine w_forE ?_ | with_reducible refine w_lcL ?_ | with_reducible refine w_lcT ?_ | with_reducible refine w_lcR ?_
  | ((with_reducible refine a_tup ?hz ?_); (case hz => exact Nat.le_of_ble_eq_true rfl); intro _ _ _ _ _) | ((with_reducible refine a_lst ?hz ?_); (case hz => exact Nat.le_of_ble_eq_true rfl); intro _ _ _ _ _)
  | ((with_reducible refine k_turn1 ?hw ?_); (case hw => rfl)) | ((with_reducible refine k_turn ?hw ?_); (case hw => rfl)) | with_reducible refine r_isV ?_ | with_reducible refine r_isNotV ?_ | with_reducible refine r_isN ?_ | with_reducible refine r_notN ?_ | with_reducible refine w_lcZ ?_
  | ((with_reducible refine r_I ?hc ?_); (case hc => first | decide | assumption))
  | with_reducible refine w_forET ?_
  | ((with_reducible refine w_dnewK ?_); intro _ _ _ _ _) | with_reducible refine w_dput ?_ | with_reducible refine w_lstRg ?_ | with_reducible refine w_lstZip ?_ | with_reducible refine w_callK ?_
  | (with_reducible refine if_pos' ?_) | (with_reducible refine if_neg' ?_))
local macro_rules | `(tactic| walk_at "w") => `(tactic| repeat (walk_at "w1"))

def topS (i : Nat) : Stmt := PySem.Challenge.pw_backagain_k14_whole_modules_faces.main.body.getD i (.Pass ⟨0, 0, 0, 0⟩)
abbrev s_any : Stmt := topS 46
theorem sc_any : FnScope ["deal", "bound", "rest"] ["deal", "bound"] (defScope s_any) := ⟨rfl, rfl, rfl, by decide +kernel, rfl, by decide +kernel, by decide +kernel⟩
theorem C_any {P : Program} {w : World} {K : PySem.W.Frag} {mg : Str → Option Value} {base : Heap} (F : Fn K mg "_law_any" s_any ["deal", "bound"]) (Z : Bz mg) : Cal P w K mg base 1 "_law_any" spAny := by
  have S := sc_any
  refine F.cal S (fun vs H Q E h => ?_) (fun f cdv A outer s H vs Q E hr h => ?_)
  · obtain ⟨D, L, n, rfl, _⟩ := h; rfl
  · obtain ⟨D, L, n, rfl, hd, hn, hb, q⟩ := h
    refine ⟨_, (pss_cons (ps_while PassesOwn.never (PW.pt (pw_and (pt_cmpR (op_neD hr.units) (pe_ix ix_list (pv 0) pe_int (fun _ _ => rfl)) (pe_lst pa_nil) (nomark _)) (pw_and1 (pt_cmpR op_eq (pe_ix ix_list (pe_ix ix_list (pv 0) pe_int (fun _ _ => rfl)) (pe_un un_neg pe_int) (fun _ _ => rfl)) pe_int (nomark _))))) (pss_one (ps_expr (pe_bm0 PySem.F.plainAttrs_list PySem.F.slot_list_pop PySem.F.type_list_pop mt_pop (pe_ix ix_list (pv 0) pe_int (fun _ _ => rfl))))))
      (pss_cons (ps_if (pt_cmpR (op_neD hr.units) (pe_ix ix_list (pv 0) pe_int (fun _ _ => rfl)) (pe_lst pa_nil) (nomark _)) (pss_cons (ps_set (i := 2) S.nd rfl (Or.inl rfl) (pe_callTy (cr_int) (by rfl) Z.int (by decide +kernel) (pa_cons (pe_bm0 PySem.F.plainAttrs_list PySem.F.slot_list_pop PySem.F.type_list_pop mt_pop (pe_ix ix_list (pv 0) pe_int (fun _ _ => rfl))) pa_nil)))
      (pss_cons (ps_expr (pe_bm PySem.F.plainAttrs_list PySem.F.slot_list_append PySem.F.type_list_append mt_append (pe_ix ix_list (pv 0) pe_int (fun _ _ => rfl)) (pa_cons (pe_op op_fdivW (pv 2) (pv 1)) pa_nil)))
      (pss_one (ps_ret (pe_op op_mod (pv 2) (pv 1)))))) pss_nil)
      (pss_cons (ps_asg (pe_op op_mod (pe_callTy (cr_int) (by rfl) Z.int (by decide +kernel) (pa_cons (pe_op op_add (pe_op op_mulW (pe_ix ix_list (pv 0) pe_int (fun _ _ => rfl)) pe_int) pe_int) pa_nil)) pe_int) (pg_sub (pv 0) pe_int set_list))
      (pss_one (ps_ret (pe_op op_mod (pe_callTy (cr_int) (by rfl) Z.int (by decide +kernel) (pa_cons (pe_op op_fdivW (pe_ix ix_list (pv 0) pe_int (fun _ _ => rfl)) pe_int) pa_nil)) (pv 1))))))), ?_⟩
    try dsimp only [cxOf, Cx.nox, Cx.wish]
    obtain ⟨st0, b0, d0⟩ := hd
    walk_at "w"
    refine w_cut (fun σ' H' => σ' = [some (.ref D), some (.int n), none] ∧ ∃ st b, DS H' D L st b ∧ Kp [D, L] H H') ?out (fun _ out => ?loop)
    case loop =>
      refine w_while (fun m σ' H' => σ' = [some (.ref D), some (.int n), none] ∧ ∃ st b, st.length = m ∧ DS H' D L st b ∧ Kp [D, L] H H') st0.length ⟨rfl, st0, b0, rfl, d0, Kp.refl _ _⟩ (fun m σ' H' hP => ?_)
      obtain ⟨rfl, st, b, rfl, d, k⟩ := hP
      walk_at "w"
      refine r_ixL (.of d.hD) (by rfl) ?_
      walk_at "w"
      rename_i p H2 hp e2 hp2
      refine r_neD (dp_ints (.of (e2 _ _ d.hL))) (.lst (.of hp2) .nil) (shaped_ints _) (by rfl) ?_
      rw [eqv_nil]
      have d2 := d.keep e2
      walk_at "w"
      by_cases hst : st = []
      · subst hst
        rw [show (!(List.map PyData.int []).isEmpty) = false from rfl]
        walk_at "w"
        exact k_wh (fun h => absurd h (by simp)) fun _ => out _ _ ⟨rfl, [], b, d2, k.ex e2⟩
      · have e0 : (!(List.map PyData.int st).isEmpty) = true := by cases st with
          | nil => exact absurd rfl hst
          | cons _ _ => rfl
        rw [e0]
        walk_at "w"
        refine r_ixL (.of d2.hD) (by rfl) ?_
        walk_at "w"
        refine r_ixL (.of d2.hL) (atI_last' hst) ?_
        walk_at "w"
        refine k_wh (fun h => ?_) fun _ => out _ _ ⟨rfl, st, b, d2, k.ex e2⟩
        walk_at "w"
        refine r_ixL (.of d2.hD) (by rfl) ?_
        refine ⟨ty_list d2.hL, r_pop d2.hL (last_int hst) fun H3 k3 h3 => ?_⟩
        rw [mapdrop] at h3
        have hlen : 0 < st.length := List.length_pos_iff.mpr hst
        refine ⟨st.dropLast.length, by rw [List.length_dropLast]; omega, rfl, st.dropLast, b, rfl, d2.setL k3 h3 (by rw [List.length_dropLast]; have := d2.len; omega) fun z hz => d2.all z (List.dropLast_subset _ hz), (k.ex e2).trans (k3.wider (by simp))⟩
    case out =>
      intro σ' H' hP
      obtain ⟨rfl, st, b, d, k⟩ := hP
      walk_at "w"
      refine r_ixL (.of d.hD) (by rfl) ?_
      walk_at "w"
      rename_i p H2 hp e2 hp2
      refine r_neD (dp_ints (.of (e2 _ _ d.hL))) (.lst (.of hp2) .nil) (shaped_ints _) (by rfl) ?_
      rw [eqv_nil]
      have d2 := d.keep e2
      have k2 := k.ex e2
      walk_at "w"
      by_cases hst : st = []
      · subst hst
        rw [show (!(List.map PyData.int []).isEmpty) = false from rfl]
        walk_at "w"
        refine r_ixL (.of d2.hD) (by rfl) ?_
        walk_at "w"
        have b0 := d2.b0
        have b1 := d2.b1
        refine r_I (wide_mul (a := 40) (b := 40) (by omega) (by decide) (by decide) (by decide) (by decide)) ?_
        walk_at "w"
        refine r_setL d2.hD (j := 1) (by rfl) fun H3 k3 h3 => ?_
        have d3 : DS H3 D L [] ((b * 40693 + 71) % 2147483647) := ⟨h3, k3 _ _ d2.hL (by simpa using d2.ne.symm), d2.len, d2.all, Int.emod_nonneg _ (by decide), Int.emod_lt_of_pos _ (by decide)⟩
        walk_at "w"
        refine r_ixL (.of d3.hD) (by rfl) ?_
        walk_at "w"
        refine r_I (wide_div (b := 8) (by decide) (by decide) (by decide) (by decide)) ?_
        walk_at "w"
        exact q _ _ (Int.emod_nonneg _ (by omega)) (Int.emod_lt_of_pos _ hn) ⟨_, _, d3⟩ (k2.trans (k3.wider (by simp)))
      · have e0 : (!(List.map PyData.int st).isEmpty) = true := by cases st with
          | nil => exact absurd rfl hst
          | cons _ _ => rfl
        rw [e0]
        walk_at "w"
        refine r_ixL (.of d2.hD) (by rfl) ?_
        refine ⟨ty_list d2.hL, r_pop d2.hL (last_int hst) fun H3 k3 h3 => ?_⟩
        rw [mapdrop] at h3
        have hlen : 0 < st.length := List.length_pos_iff.mpr hst
        have d3 : DS H3 D L st.dropLast b := d2.setL k3 h3 (by rw [List.length_dropLast]; have := d2.len; omega) fun z hz => d2.all z (List.dropLast_subset _ hz)
        have z0 := d2.all _ (List.getLast_mem hst)
        walk_at "w"
        refine r_ixL (.of d3.hD) (by rfl) ?_
        refine ⟨ty_list d3.hL, ?_⟩
        walk_at "w"
        refine r_I (wide_div (b := 4000) hn hb (by decide) (by decide)) ?_
        walk_at "w"
        refine r_append d3.hL (by rw [List.length_map, List.length_dropLast]; have := d2.len; omega) fun H4 k4 h4 => ?_
        have e4 : st.dropLast.map V.int ++ [V.int (st.getLast hst / n)] = (st.dropLast ++ [st.getLast hst / n]).map V.int := by simp
        rw [e4] at h4
        have d4 : DS H4 D L (st.dropLast ++ [st.getLast hst / n]) b := d3.setL k4 h4 (by rw [List.length_append, List.length_dropLast, List.length_singleton]; have := d2.len; omega) (fun z hz => by
          rcases List.mem_append.mp hz with h | h
          · exact d3.all z h
          · rw [List.mem_singleton.mp h]
            exact Int.ediv_nonneg z0 (by omega))
        walk_at "w"
        exact q _ _ (Int.emod_nonneg _ (by omega)) (Int.emod_lt_of_pos _ hn) ⟨_, _, d4⟩ ((k2.trans (k3.wider (by simp))).trans (k4.wider (by simp)))
end BkL
end
section
namespace BkL
open PySem PySem.Spec L2 BkG
local macro_rules | `(tactic| walk_at "w1") => `(tactic| first
  | with_reducible refine w_seq ?_ | with_reducible refine w_set ?_ | with_reducible refine w_ret ?_ | with_reducible refine w_drop ?_ | with_reducible refine w_ifS ?_
  | with_reducible refine w_next ?_ | with_reducible refine w_c ?_ | ((with_reducible refine' w_var ?hv ?_); (case hv => rfl)) | with_reducible refine w_op ?_ | with_reducible refine w_cons ?_ | with_reducible refine w_nil ?_
  | with_reducible refine w_cb ?_ | with_reducible refine w_call ?_ | with_reducible refine w_tup ?_ | with_reducible refine w_lst ?_ | with_reducible refine w_bm ?_ | with_reducible refine w_bm0 ?_ | with_reducible refine w_un ?_
  | with_reducible refine w_test ?_ | with_reducible refine w_B ?_ | with_reducible refine k_B ?_ | with_reducible refine w_and ?_ | with_reducible refine w_or ?_ | with_reducible refine w_not ?_ | with_reducible refine w_if ?_
  | with_reducible refine w_andV ?_ | with_reducible refine w_orV ?_ | with_reducible refine w_notV ?_ | with_reducible refine k_andV ?_ | with_reducible refine k_orV ?_ | with_reducible refine k_notV ?_
  | with_reducible refine w_chain ?_ | with_reducible refine ex_bl ?_ | with_reducible refine w_isN ?_ | with_reducible refine w_notN ?_ | with_reducible refine w_yes ?_
  | with_reducible refine r_I0 ?_ | with_reducible refine r_U ?_ | with_reducible refine r_eqI ?_ | with_reducible refine r_neI ?_ | with_reducible refine r_eqS ?_ | with_reducible refine r_neS ?_ | with_reducible refine r_eqB ?_ | with_reducible refine r_neB ?_
  | with_reducible refine r_abs ?_ | with_reducible refine r_int ?_ | with_reducible refine r_intB ?_
  | with_reducible refine w_sl ?_ | with_reducible refine w_nop ?_ | with_reducible refine w_part ?_ | with_reducible refine k_part ?_ | with_reducible refine w_revL ?_
  | with_reducible refine w_asg ?_ | with_reducible refine w_gname ?_ | with_reducible refine w_gsub ?_ | with_reducible refine w_gnil ?_ | with_reducible refine w_gcons ?_ | with_reducible refine w_retN ?_ | with_reducible refine w_brk ?_ | with_reducible refine w_cont ?_
  | with_reducible refine w_par ?_ | with_reducible refine w_par3 ?_ | with_reducible refine par_ok ?_ | with_reducible refine par_ok3 ?_ | ((with_reducible refine' w_aug ?hv ?_); (case hv => rfl)) | with_reducible refine i_I ?_
  | with_reducible refine w_forL ?_ | with_reducible refine w_forT ?_ | with_reducible refine w_forR1 ?_ | with_reducible refine w_forE ?_ | with_reducible refine w_lcL ?_ | with_reducible refine w_lcT ?_ | with_reducible refine w_lcR ?_
  | ((with_reducible refine a_tup ?hz ?_); (case hz => exact Nat.le_of_ble_eq_true rfl); intro _ _ _ _ _) | ((with_reducible refine a_lst ?hz ?_); (case hz => exact Nat.le_of_ble_eq_true rfl); intro _ _ _ _ _)
  | ((with_reducible refine k_turn1 ?hw ?_); (case hw => rfl)) | ((with_reducible refine k_turn ?hw ?_); (case hw => rfl)) | with_reducible refine r_isV ?_ | with_reducible refine r_isNotV ?_ | with_reducible refine r_isN ?_ | with_reducible refine r_notN ?_ | with_reducible refine w_lcZ ?_
  | ((with_reducible refine r_I ?hc ?_); (case hc => first | decide | assumption))
  | with_reducible refine w_forET ?_
  | ((with_reducible refine w_dnewK ?_); intro _ _ _ _ _) | with_reducible refine w_dput ?_ | with_reducible refine w_lstRg ?_ | with_reducible refine w_lstZip ?_ | with_reducible refine w_callK ?_
  | (with_reducible refine if_pos' ?_) | (with_reducible refine if_neg' ?_))
local macro_rules | `(tactic| walk_at "w") => `(tactic| repeat (walk_at "w1"))

local macro_rules | `(tactic| walk_at "s") => `(tactic| repeat (first | walk_at "w1" | with_reducible refine w_lcS ?_ | with_reducible refine w_m1 ?_ | with_reducible refine w_m0 ?_ | with_reducible refine k_m1 ?_ | with_reducible refine k_m0 ?_ | with_reducible refine k_lcS ?_))
section
variable {P : Program} {w : World} {K : PySem.W.Frag} {mg : Str → Option Value} {base : Heap}
abbrev s_isname : Stmt := topS 5
theorem sc_isname : FnScope ["value", "sign"] ["value"] (defScope s_isname) := ⟨rfl, rfl, rfl, by decide +kernel, rfl, by decide +kernel, by decide +kernel⟩
theorem C_isname (F : Fn K mg "is_name" s_isname ["value"]) (Z : Bz mg) (gT_WORDS : ∃ pa, (∃ u, mg "WORDS" = some u ∧ RelV (.ref pa) u) ∧ ∀ H, SqT K H pa wordsV) (g_MOST_SIGNS : ∃ u, mg "MOST_SIGNS" = some u ∧ RelV (.int 12) u) (g_LETTERS : ∃ u, mg "LETTERS" = some u ∧ RelV (.str "abcdefghijklmnopqrstuvwxyz") u) (g_DIGITS : ∃ u, mg "DIGITS" = some u ∧ RelV (.str "0123456789") u) :
    CalK P w K mg base 1 "is_name" ["value"] spNameX := by
  have S := sc_isname
  obtain ⟨pa, g_WORDS, gp⟩ := gT_WORDS
  refine F.calK S (fun vs H Q E h => ?_) (fun f cdv A' outer s H vs Q E hr h => ?_)
  · obtain ⟨M, v, d, rfl, _⟩ := h; rfl
  · obtain ⟨M, v, d, rfl, hv, hsh, q⟩ := h
    refine ⟨_, (pss_cons (ps_if (PW.pt (pw_or (pt_not (pt_val (pe_callB call_isi (by rfl) Z.isinstance (by decide +kernel) (pa_cons (pv 0) (pa_cons (pe_bltn (v := .ty "str") (by rfl) Z.str (by decide +kernel) rfl) pa_nil))))) (pw_or (pt_not (pt_chain op_le op_le pe_int (pe_callB (cr_len) (by rfl) Z.len (by decide +kernel) (pa_cons (pv 0) pa_nil)) (pe_gc (by rfl) g_MOST_SIGNS))) (pw_or1 (pt_cmpR op_in_seq (pv 0) (pe_gc (by rfl) g_WORDS) (by rfl)))))) (pss_one (ps_ret pe_bl)) pss_nil)
      (pss_one (ps_ret (pe_and (pe_cmpR op_inS (pe_ix ix_str (pv 0) pe_int (fun _ _ => rfl)) (pe_gc (by rfl) g_LETTERS) (by rfl)) (pe_one (pe_callB (cr_all rfl) (by rfl) Z.all (by decide +kernel) (pa_cons (pe_lc (own := [("sign", 1)]) (g := (gName 1)) (tt := tYes) rfl S.nd (pi_str (pv 0)) (blkOk_by (N := ["value", "sign"]) (sc := defScope s_isname) (by decide +kernel)) (fun _ _ _ _ _ => (pg_name (i := 1) S.nd rfl (Or.inl rfl))) (fun _ _ _ _ _ => pts_nil) (fun _ _ _ _ _ => (pe_or (pe_cmpR op_inS (pv 1) (pe_gc (by rfl) g_LETTERS) (by rfl)) (pe_one (pe_cmpR op_inS (pv 1) (pe_gc (by rfl) g_DIGITS) (by rfl)))))) pa_nil))))))), ?_⟩
    try dsimp only [cxOf, Cx.nox, Cx.wish]
    walk_at "s"
    refine r_isiStr hv ?_
    walk_at "s"
    refine if_by (fun h => ?_) (fun h => ?_)
    · have e : isStr d = false := by simpa using h
      walk_at "s"
      have q' := q H (fun _ _ h => h)
      cases d <;> first | (simp [isStr] at e; done) | exact q'
    obtain ⟨z, rfl⟩ : ∃ z, d = .str z := by cases d <;> simp [isStr] at h ⊢
    cases hv
    have hz := hsh z rfl
    have q0 := q H (fun _ _ h => h)
    walk_at "s"
    have hlz : z.cps.toList.length = z.length := len_list z
    refine r_lenS (sz_of (by omega)) ?_
    walk_at "s"
    by_cases h1 : (1 : Int) ≤ (z.length : Int)
    case neg =>
      rw [decide_eq_false h1]
      walk_at "s"
      refine if_dt (by rfl) ?_
      walk_at "s"
      have h1' : ¬ 1 ≤ z.length := by omega
      rw [show isNameD (.str z) = false by simp [isNameD, nameS, h1']] at q0
      exact q0
    rw [decide_eq_true h1]
    walk_at "s"
    refine if_by (fun h => ?_) (fun h => ?_)
    · walk_at "s"
      have h1' : ¬ z.length ≤ 12 := by
        have h' : ¬ ((z.length : Int) ≤ 12) := of_decide_eq_false (by simpa using h)
        omega
      rw [show isNameD (.str z) = false by simp [isNameD, nameS, h1']] at q0
      exact q0
    have h2 : z.length ≤ 12 := by
      have h' : ((z.length : Int) ≤ 12) := of_decide_eq_true (by simpa using h)
      omega
    walk_at "s"
    refine r_in (.inr (gp _)) rfl (by decide +kernel) ?_
    walk_at "s"
    refine if_by (fun h => ?_) (fun h => ?_)
    · walk_at "s"
      rw [show isNameD (.str z) = false by simp [isNameD, nameS, h]] at q0
      exact q0
    obtain ⟨c, hc⟩ : ∃ c, z.cps.toList[0]? = some c := ⟨_, List.getElem?_eq_getElem (by omega)⟩
    walk_at "s"
    refine r_ixS (by omega) (c := c) (by rw [show ((0 : Int)) = ((0 : Nat) : Int) from rfl]; exact atI_nat hc) ?_
    walk_at "s"
    refine r_inS ?_
    rw [let_in]
    have hall : isNameD (.str z) = (isLet c && z.cps.toList.all fun c => isLet c || isDig c) := by
      show nameS z = _
      unfold nameS
      rw [decide_eq_true ⟨by omega, h2⟩, h, headD_of hc]
      rfl
    walk_at "s"
    refine if_by (fun h3 => ?_) (fun h3 => ?_)
    · walk_at "s"
      refine (lcS (fun i acc D' H' => Ex H H' ∧ acc = ((z.cps.toList.take i).map fun c => isLet c || isDig c).map V.bl) (fun D' H2 _ e _ => ⟨e, rfl⟩) (fun i c acc D' H' hx hlt hD hacc p => ?_) (fun acc D' H' _ hD hacc p => ?_))
      · obtain ⟨e, rfl⟩ := p
        have hx' : z.cps.toList[i]? = some c := by rw [Array.getElem?_toList]; exact hx
        have hi : i < z.cps.toList.length := (List.getElem?_eq_some_iff.mp hx').1
        walk_at "s"
        refine r_inS ?_
        rw [let_in]
        walk_at "s"
        refine if_by (fun h => ?_) (fun h => ?_)
        · refine k_lc hacc hlt (by omega) fun H5 h5 k5 => ⟨e.mut hD k5, ?_⟩
          rw [take_map_more hx', List.map_append, h]; rfl
        · walk_at "s"
          refine r_inS ?_
          rw [dig_in]
          refine k_lc hacc hlt (by omega) fun H5 h5 k5 => ⟨e.mut hD k5, ?_⟩
          rw [take_map_more hx', List.map_append, h]; rfl
      · obtain ⟨e, rfl⟩ := p
        rw [show z.cps.size = z.cps.toList.length by simp, List.take_length] at hacc
        refine r_all hacc ?_
        have q' := q H' e
        rw [hall, h3, Bool.true_and] at q'
        rw [List.all_map]
        exact q'
    · rw [hall, h3] at q0
      exact q0
end
end BkL
end
section
namespace BkL
open PySem PySem.Spec L2 BkG
local macro_rules | `(tactic| walk_at "w1") => `(tactic| first
  | with_reducible refine w_seq ?_ | with_reducible refine w_set ?_ | with_reducible refine w_ret ?_ | with_reducible refine w_drop ?_ | with_reducible refine w_ifS ?_
  | with_reducible refine w_next ?_ | with_reducible refine w_c ?_ | ((with_reducible refine' w_var ?hv ?_); (case hv => rfl)) | with_reducible refine w_op ?_ | with_reducible refine w_cons ?_ | with_reducible refine w_nil ?_
  | with_reducible refine w_cb ?_ | with_reducible refine w_call ?_ | with_reducible refine w_tup ?_ | with_reducible refine w_lst ?_ | with_reducible refine w_bm ?_ | with_reducible refine w_bm0 ?_ | with_reducible refine w_un ?_
  | with_reducible refine w_test ?_ | with_reducible refine w_B ?_ | with_reducible refine k_B ?_ | with_reducible refine w_and ?_ | with_reducible refine w_or ?_ | with_reducible refine w_not ?_ | with_reducible refine w_if ?_
  | with_reducible refine w_andV ?_ | with_reducible refine w_orV ?_ | with_reducible refine w_notV ?_ | with_reducible refine k_andV ?_ | with_reducible refine k_orV ?_ | with_reducible refine k_notV ?_
  | with_reducible refine w_chain ?_ | with_reducible refine ex_bl ?_ | with_reducible refine w_isN ?_ | with_reducible refine w_notN ?_ | with_reducible refine w_yes ?_
  | with_reducible refine r_I0 ?_ | with_reducible refine r_U ?_ | with_reducible refine r_eqI ?_ | with_reducible refine r_neI ?_ | with_reducible refine r_eqS ?_ | with_reducible refine r_neS ?_ | with_reducible refine r_eqB ?_ | with_reducible refine r_neB ?_
  | with_reducible refine r_abs ?_ | with_reducible refine r_int ?_ | with_reducible refine r_intB ?_
  | with_reducible refine w_sl ?_ | with_reducible refine w_nop ?_ | with_reducible refine w_part ?_ | with_reducible refine k_part ?_ | with_reducible refine w_revL ?_
  | with_reducible refine w_asg ?_ | with_reducible refine w_gname ?_ | with_reducible refine w_gsub ?_ | with_reducible refine w_gnil ?_ | with_reducible refine w_gcons ?_ | with_reducible refine w_retN ?_ | with_reducible refine w_brk ?_ | with_reducible refine w_cont ?_
  | with_reducible refine w_par ?_ | with_reducible refine w_par3 ?_ | with_reducible refine par_ok ?_ | with_reducible refine par_ok3 ?_ | ((with_reducible refine' w_aug ?hv ?_); (case hv => rfl)) | with_reducible refine i_I ?_
  | with_reducible refine w_forL ?_ | with_reducible refine w_forT ?_ | with_reducible refine w_forR1 ?_ | with_reducible refine w_forE ?_ | with_reducible refine w_lcL ?_ | with_reducible refine w_lcT ?_ | with_reducible refine w_lcR ?_
  | ((with_reducible refine a_tup ?hz ?_); (case hz => exact Nat.le_of_ble_eq_true rfl); intro _ _ _ _ _) | ((with_reducible refine a_lst ?hz ?_); (case hz => exact Nat.le_of_ble_eq_true rfl); intro _ _ _ _ _)
  | ((with_reducible refine k_turn1 ?hw ?_); (case hw => rfl)) | ((with_reducible refine k_turn ?hw ?_); (case hw => rfl)) | with_reducible refine r_isV ?_ | with_reducible refine r_isNotV ?_ | with_reducible refine r_isN ?_ | with_reducible refine r_notN ?_ | with_reducible refine w_lcZ ?_
  | ((with_reducible refine r_I ?hc ?_); (case hc => first | decide | assumption))
  | with_reducible refine w_forET ?_
  | ((with_reducible refine w_dnewK ?_); intro _ _ _ _ _) | with_reducible refine w_dput ?_ | with_reducible refine w_lstRg ?_ | with_reducible refine w_lstZip ?_ | with_reducible refine w_callK ?_
  | (with_reducible refine if_pos' ?_) | (with_reducible refine if_neg' ?_))
local macro_rules | `(tactic| walk_at "w") => `(tactic| repeat (walk_at "w1"))

local macro_rules | `(tactic| walk_at "s") => `(tactic| repeat (first | walk_at "w1" | with_reducible refine w_lcS ?_ | with_reducible refine w_m1 ?_ | with_reducible refine w_m0 ?_ | with_reducible refine k_m1 ?_ | with_reducible refine k_m0 ?_ | with_reducible refine k_lcS ?_ | refine r_catS (by decide +kernel) ?_))
section
variable {P : Program} {w : World} {K : PySem.W.Frag} {mg : Str → Option Value} {base : Heap}
abbrev s_lisname : Stmt := topS 50
theorem sc_lisname : FnScope ["value", "words", "sign"] ["value"] (defScope s_lisname) := ⟨rfl, rfl, rfl, by decide +kernel, rfl, by decide +kernel, by decide +kernel⟩
theorem C_lisname (F : Fn K mg "_law_is_name" s_lisname ["value"]) (Z : Bz mg) : Cal P w K mg base 1 "_law_is_name" spName := by
  have S := sc_lisname
  refine F.cal S (fun vs H Q E h => ?_) (fun f cdv A' outer s H vs Q E hr h => ?_)
  · obtain ⟨M, v, d, rfl, _⟩ := h; rfl
  · obtain ⟨M, v, d, rfl, hv, hsh, hni, q⟩ := h
    refine ⟨_, (pss_cons (ps_set (i := 1) S.nd rfl (Or.inl rfl) pe_str)
      (pss_cons (ps_set (i := 1) S.nd rfl (Or.inl rfl) (pe_op op_catS (pv 1) pe_str))
      (pss_cons (ps_set (i := 1) S.nd rfl (Or.inl rfl) (pe_split (pe_op op_catS (pv 1) pe_str) pe_str))
      (pss_cons (ps_if (PW.pt (pw_or (pt_not (pt_val (pe_callB call_isi (by rfl) Z.isinstance (by decide +kernel) (pa_cons (pv 0) (pa_cons (pe_bltn (v := .ty "str") (by rfl) Z.str (by decide +kernel) rfl) pa_nil))))) (pw_or (pt_not (pt_chain op_le op_le pe_int (pe_callB (cr_len) (by rfl) Z.len (by decide +kernel) (pa_cons (pv 0) pa_nil)) pe_int)) (pw_or1 (pt_cmpR op_in_seq (pv 0) (pv 1) (by rfl)))))) (pss_one (ps_ret pe_bl)) pss_nil)
      (pss_one (ps_ret (pe_and (pe_cmpR op_inS (pe_ix ix_str (pv 0) pe_int (fun _ _ => rfl)) pe_str (by rfl)) (pe_one (pe_cmpR (op_eqD hr.units) (pe_lc (own := [("sign", 2)]) (g := (gName 2)) rfl S.nd (pi_str (pv 0)) (blkOk_by (N := ["value", "words", "sign"]) (sc := defScope s_lisname) (by decide +kernel)) (fun _ _ _ _ _ => (pg_name (i := 2) S.nd rfl (Or.inl rfl))) (fun _ _ _ _ _ => (pts_one (pt_cmpR op_notInS (pv 2) pe_str (by rfl)))) (fun _ _ _ _ _ => (pv 2))) (pe_lst pa_nil) (nomark _)))))))))), ?_⟩
    try dsimp only [cxOf, Cx.nox, Cx.wish]
    walk_at "s"
    refine ⟨_, _, rfl, rfl, by decide +kernel, sz_of (by decide +kernel), r_newStrs fun p1 H1 hp1 e1 h1 => ?_⟩
    generalize hsp : Txt.split _ _ = ws at h1
    have hws : ws = wordsS := by rw [← hsp]; decide +kernel
    clear hsp
    subst hws
    walk_at "s"
    refine r_isiStr (hv.ex e1) ?_
    walk_at "s"
    have q0 := q H1 e1
    refine if_by (fun h => ?_) (fun h => ?_)
    · have e : isStr d = false := by simpa using h
      walk_at "s"
      cases d <;> first | (simp [isStr] at e; done) | exact q0
    obtain ⟨z, rfl⟩ : ∃ z, d = .str z := by cases d <;> simp [isStr] at h ⊢
    cases hv
    have hz := hsh z rfl
    walk_at "s"
    have hlz : z.cps.toList.length = z.length := len_list z
    refine r_lenS (sz_of (by omega)) ?_
    walk_at "s"
    by_cases h1c : (1 : Int) ≤ (z.length : Int)
    case neg =>
      rw [decide_eq_false h1c]
      walk_at "s"
      refine if_dt (by rfl) ?_
      walk_at "s"
      have h1' : ¬ 1 ≤ z.length := by omega
      rw [show isNameD (.str z) = false by simp [isNameD, nameS, h1']] at q0
      exact q0
    rw [decide_eq_true h1c]
    walk_at "s"
    refine if_by (fun h => ?_) (fun h => ?_)
    · walk_at "s"
      have h1' : ¬ z.length ≤ 12 := by
        have h' : ¬ ((z.length : Int) ≤ 12) := of_decide_eq_false (by simpa using h)
        omega
      rw [show isNameD (.str z) = false by simp [isNameD, nameS, h1']] at q0
      exact q0
    have h2 : z.length ≤ 12 := by
      have h' : ((z.length : Int) ≤ 12) := of_decide_eq_true (by simpa using h)
      omega
    walk_at "s"
    refine r_in (.inl (.of h1)) rfl (by decide +kernel) ?_
    walk_at "s"
    refine if_by (fun h => ?_) (fun h => ?_)
    · walk_at "s"
      have h' : inV (.str z) wordsV = true := h
      rw [show isNameD (.str z) = false by simp [isNameD, nameS, h']] at q0
      exact q0
    have hnw : inV (.str z) wordsV = false := h
    obtain ⟨c, hc⟩ : ∃ c, z.cps.toList[0]? = some c := ⟨_, List.getElem?_eq_getElem (by omega)⟩
    walk_at "s"
    refine r_ixS (by omega) (c := c) (by rw [show ((0 : Int)) = ((0 : Nat) : Int) from rfl]; exact atI_nat hc) ?_
    walk_at "s"
    refine r_inS ?_
    rw [let_in]
    have hall : isNameD (.str z) = (isLet c && z.cps.toList.all fun c => isLet c || isDig c) := by
      show nameS z = _
      unfold nameS
      rw [decide_eq_true ⟨by omega, h2⟩, hnw, headD_of hc]
      rfl
    walk_at "s"
    refine if_by (fun h3 => ?_) (fun h3 => ?_)
    · walk_at "s"
      refine (lcS (fun i acc D' H' => Ex H1 H' ∧ acc = ((z.cps.toList.take i).filter fun c => !(isLet c || isDig c)).map fun c => V.str ⟨#[c]⟩) (fun D' H2 _ e _ => ⟨e, rfl⟩) (fun i c acc D' H' hx hlt hD hacc p => ?_) (fun acc D' H' _ hD hacc p => ?_))
      · obtain ⟨e, rfl⟩ := p
        have hx' : z.cps.toList[i]? = some c := by rw [Array.getElem?_toList]; exact hx
        have hi : i < z.cps.toList.length := (List.getElem?_eq_some_iff.mp hx').1
        walk_at "s"
        refine r_notInS ?_
        rw [sign_in]
        walk_at "s"
        refine if_by (fun h => ?_) (fun h => ?_)
        · walk_at "s"
          refine k_lc hacc hlt (by omega) fun H5 h5 k5 => ⟨e.mut hD k5, ?_⟩
          rw [filter_takeC hx', if_pos h, List.map_append]; rfl
        · refine k_lcN hacc hlt ⟨e, ?_⟩
          rw [filter_takeC hx', if_neg (by rw [h]; decide), List.append_nil]
      · obtain ⟨e, rfl⟩ := p
        rw [show z.cps.size = z.cps.toList.length by simp, List.take_length] at hacc
        walk_at "s"
        rename_i p5 H5 hp5 e5 h5
        have hfl : (z.cps.toList.filter fun c => !(isLet c || isDig c)).length ≤ 90000 := by
          have := List.length_filter_le (fun c => !(isLet c || isDig c)) z.cps.toList
          omega
        refine r_eqD2 (M := []) (dv_signs (e5 _ _ hacc)) (dv_nilL h5) (nice_signs (n := 59) (nice.mk (okD_str _ _) (nice.lay hni)) hfl (fun c hc => (List.mem_filter.mp hc).1)) (by decide +kernel) ?_
        have q' := q H5 ((e1.trans e).trans e5)
        rw [hall, h3, Bool.true_and] at q'
        rw [eqv_nil, isEmpty_map2', isEmpty_filterC]
        exact q'
    · rw [hall, h3] at q0
      exact q0
end
end BkL
end
section
namespace BkL
open PySem PySem.Spec L2 BkG
local macro_rules | `(tactic| walk_at "w1") => `(tactic| first
  | with_reducible refine w_seq ?_ | with_reducible refine w_set ?_ | with_reducible refine w_ret ?_ | with_reducible refine w_drop ?_ | with_reducible refine w_ifS ?_
  | with_reducible refine w_next ?_ | with_reducible refine w_c ?_ | ((with_reducible refine' w_var ?hv ?_); (case hv => rfl)) | with_reducible refine w_op ?_ | with_reducible refine w_cons ?_ | with_reducible refine w_nil ?_
  | with_reducible refine w_cb ?_ | with_reducible refine w_call ?_ | with_reducible refine w_tup ?_ | with_reducible refine w_lst ?_ | with_reducible refine w_bm ?_ | with_reducible refine w_bm0 ?_ | with_reducible refine w_un ?_
  | with_reducible refine w_test ?_ | with_reducible refine w_B ?_ | with_reducible refine k_B ?_ | with_reducible refine w_and ?_ | with_reducible refine w_or ?_ | with_reducible refine w_not ?_ | with_reducible refine w_if ?_
  | with_reducible refine w_andV ?_ | with_reducible refine w_orV ?_ | with_reducible refine w_notV ?_ | with_reducible refine k_andV ?_ | with_reducible refine k_orV ?_ | with_reducible refine k_notV ?_
  | with_reducible refine w_chain ?_ | with_reducible refine ex_bl ?_ | with_reducible refine w_isN ?_ | with_reducible refine w_notN ?_ | with_reducible refine w_yes ?_
  | with_reducible refine r_I0 ?_ | with_reducible refine r_U ?_ | with_reducible refine r_eqI ?_ | with_reducible refine r_neI ?_ | with_reducible refine r_eqS ?_ | with_reducible refine r_neS ?_ | with_reducible refine r_eqB ?_ | with_reducible refine r_neB ?_
  | with_reducible refine r_abs ?_ | with_reducible refine r_int ?_ | with_reducible refine r_intB ?_
  | with_reducible refine w_sl ?_ | with_reducible refine w_nop ?_ | with_reducible refine w_part ?_ | with_reducible refine k_part ?_ | with_reducible refine w_revL ?_
  | with_reducible refine w_asg ?_ | with_reducible refine w_gname ?_ | with_reducible refine w_gsub ?_ | with_reducible refine w_gnil ?_ | with_reducible refine w_gcons ?_ | with_reducible refine w_retN ?_ | with_reducible refine w_brk ?_ | with_reducible refine w_cont ?_
  | with_reducible refine w_par ?_ | with_reducible refine w_par3 ?_ | with_reducible refine par_ok ?_ | with_reducible refine par_ok3 ?_ | ((with_reducible refine' w_aug ?hv ?_); (case hv => rfl)) | with_reducible refine i_I ?_
  | with_reducible refine w_forL ?_ | with_reducible refine w_forT ?_ | with_reducible refine w_forR1 ?_ | with_reducible refine w_forE ?_ | with_reducible refine w_lcL ?_ | with_reducible refine w_lcT ?_ | with_reducible refine w_lcR ?_
  | ((with_reducible refine a_tup ?hz ?_); (case hz => exact Nat.le_of_ble_eq_true rfl); intro _ _ _ _ _) | ((with_reducible refine a_lst ?hz ?_); (case hz => exact Nat.le_of_ble_eq_true rfl); intro _ _ _ _ _)
  | ((with_reducible refine k_turn1 ?hw ?_); (case hw => rfl)) | ((with_reducible refine k_turn ?hw ?_); (case hw => rfl)) | with_reducible refine r_isV ?_ | with_reducible refine r_isNotV ?_ | with_reducible refine r_isN ?_ | with_reducible refine r_notN ?_ | with_reducible refine w_lcZ ?_
  | ((with_reducible refine r_I ?hc ?_); (case hc => first | decide | assumption))
  | with_reducible refine w_forET ?_
  | ((with_reducible refine w_dnewK ?_); intro _ _ _ _ _) | with_reducible refine w_dput ?_ | with_reducible refine w_lstRg ?_ | with_reducible refine w_lstZip ?_ | with_reducible refine w_callK ?_
  | (with_reducible refine if_pos' ?_) | (with_reducible refine if_neg' ?_))
local macro_rules | `(tactic| walk_at "w") => `(tactic| repeat (walk_at "w1"))

section
variable {P : Program} {w : World} {K : PySem.W.Frag} {mg : Str → Option Value} {base : Heap}
abbrev s_isint : Stmt := topS 8
theorem sc_isint : FnScope ["value"] ["value"] (defScope s_isint) := ⟨rfl, rfl, rfl, by decide +kernel, rfl, by decide +kernel, by decide +kernel⟩
theorem C_isint (F : Fn K mg "is_integer" s_isint ["value"]) (Z : Bz mg) : Cal P w K mg base 1 "is_integer" spIntg := by
  have S := sc_isint
  refine F.cal S (fun vs H Q E h => ?_) (fun f cdv A' outer s H vs Q E hr h => ?_)
  · obtain ⟨M, v, d, rfl, _⟩ := h; rfl
  · obtain ⟨M, v, d, rfl, hv, q⟩ := h
    refine ⟨_, (pss_one (ps_ret (pe_and (pe_callB call_isi (by rfl) Z.isinstance (by decide +kernel) (pa_cons (pv 0) (pa_cons (pe_bltn (v := .ty "int") (by rfl) Z.int (by decide +kernel) rfl) pa_nil))) (pe_one (pe_not (pe_callB call_isi (by rfl) Z.isinstance (by decide +kernel) (pa_cons (pv 0) (pa_cons (pe_bltn (v := .ty "bool") (by rfl) Z.bool (by decide +kernel) rfl) pa_nil)))))))), ?_⟩
    try dsimp only [cxOf, Cx.nox, Cx.wish]
    walk_at "w"
    refine r_isiInt hv ?_
    walk_at "w"
    refine if_by (fun h => ?_) (fun h => ?_)
    · walk_at "w"
      refine r_isiBool hv ?_
      walk_at "w"
      have e : (!isBool d) = isIntg d := by cases d <;> simp [isInt, isBool, isIntg] at h ⊢
      rw [e]; exact q
    · have e : isIntg d = false := by cases d <;> simp [isInt, isIntg] at h ⊢
      rw [e] at q; exact q
abbrev s_iswid : Stmt := topS 11
theorem sc_iswid : FnScope ["value"] ["value"] (defScope s_iswid) := ⟨rfl, rfl, rfl, by decide +kernel, rfl, by decide +kernel, by decide +kernel⟩
theorem C_iswid (F : Fn K mg "is_width" s_iswid ["value"]) (Z : Bz mg) (g_MOST_WIDTH : ∃ u, mg "MOST_WIDTH" = some u ∧ RelV (.int 64) u) (C1 : Cal P w K mg base 1 "is_integer" spIntg) : Cal P w K mg base 2 "is_width" spWid := by
  have S := sc_iswid
  refine F.cal S (fun vs H Q E h => ?_) (fun f cdv A' outer s H vs Q E hr h => ?_)
  · obtain ⟨M, v, d, rfl, _⟩ := h; rfl
  · obtain ⟨M, v, d, rfl, hv, q⟩ := h
    refine ⟨_, (pss_one (ps_ret (pe_and (pe_c0 C1 hr (by omega) (by rfl) (pa_cons (pv 0) pa_nil)) (pe_one (pe_chain op_le op_le pe_int (pv 0) (pe_gc (by rfl) g_MOST_WIDTH)))))), ?_⟩
    try dsimp only [cxOf, Cx.nox, Cx.wish]
    walk_at "w"
    refine ⟨M, v, d, rfl, hv, ?_⟩
    walk_at "w"
    refine if_by (fun h => ?_) (fun h => ?_)
    · cases hv with
      | int n =>
        walk_at "w"
        by_cases h1 : (1 : Int) ≤ n
        · rw [decide_eq_true h1]
          walk_at "w"
          have e : isWid (.int n) = decide (n ≤ 64) := by simp [isWid, h1]
          rw [e] at q; exact q
        · rw [decide_eq_false h1]
          walk_at "w"
          have e : isWid (.int n) = false := by simp [isWid, h1]
          rw [e] at q; exact q
      | _ => simp [isIntg] at h
    · have e : isWid d = false := by cases d <;> simp [isWid, isIntg] at h ⊢
      rw [e] at q; exact q
end
end BkL
end
section
namespace BkL
open PySem PySem.Spec L2 BkG
local macro_rules | `(tactic| walk_at "w1") => `(tactic| first
  | with_reducible refine w_seq ?_ | with_reducible refine w_set ?_ | with_reducible refine w_ret ?_ | with_reducible refine w_drop ?_ | with_reducible refine w_ifS ?_
  | with_reducible refine w_next ?_ | with_reducible refine w_c ?_ | ((with_reducible refine' w_var ?hv ?_); (case hv => rfl)) | with_reducible refine w_op ?_ | with_reducible refine w_cons ?_ | with_reducible refine w_nil ?_
  | with_reducible refine w_cb ?_ | with_reducible refine w_call ?_ | with_reducible refine w_tup ?_ | with_reducible refine w_lst ?_ | with_reducible refine w_bm ?_ | with_reducible refine w_bm0 ?_ | with_reducible refine w_un ?_
  | with_reducible refine w_test ?_ | with_reducible refine w_B ?_ | with_reducible refine k_B ?_ | with_reducible refine w_and ?_ | with_reducible refine w_or ?_ | with_reducible refine w_not ?_ | with_reducible refine w_if ?_
  | with_reducible refine w_andV ?_ | with_reducible refine w_orV ?_ | with_reducible refine w_notV ?_ | with_reducible refine k_andV ?_ | with_reducible refine k_orV ?_ | with_reducible refine k_notV ?_
  | with_reducible refine w_chain ?_ | with_reducible refine ex_bl ?_ | with_reducible refine w_isN ?_ | with_reducible refine w_notN ?_ | with_reducible refine w_yes ?_
  | with_reducible refine r_I0 ?_ | with_reducible refine r_U ?_ | with_reducible refine r_eqI ?_ | with_reducible refine r_neI ?_ | with_reducible refine r_eqS ?_ | with_reducible refine r_neS ?_ | with_reducible refine r_eqB ?_ | with_reducible refine r_neB ?_
  | with_reducible refine r_abs ?_ | with_reducible refine r_int ?_ | with_reducible refine r_intB ?_
  | with_reducible refine w_sl ?_ | with_reducible refine w_nop ?_ | with_reducible refine w_part ?_ | with_reducible refine k_part ?_ | with_reducible refine w_revL ?_
  | with_reducible refine w_asg ?_ | with_reducible refine w_gname ?_ | with_reducible refine w_gsub ?_ | with_reducible refine w_gnil ?_ | with_reducible refine w_gcons ?_ | with_reducible refine w_retN ?_ | with_reducible refine w_brk ?_ | with_reducible refine w_cont ?_
  | with_reducible refine w_par ?_ | with_reducible refine w_par3 ?_ | with_reducible refine par_ok ?_ | with_reducible refine par_ok3 ?_ | ((with_reducible refine' w_aug ?hv ?_); (case hv => rfl)) | with_reducible refine i_I ?_
  | with_reducible refine w_forL ?_ | with_reducible refine w_forT ?_ | with_reducible refine w_forR1 ?_ | with_reducible refine w_forE ?_ | with_reducible refine w_lcL ?_ | with_reducible refine w_lcT ?_ | with_reducible refine w_lcR ?_
  | ((with_reducible refine a_tup ?hz ?_); (case hz => exact Nat.le_of_ble_eq_true rfl); intro _ _ _ _ _) | ((with_reducible refine a_lst ?hz ?_); (case hz => exact Nat.le_of_ble_eq_true rfl); intro _ _ _ _ _)
  | ((with_reducible refine k_turn1 ?hw ?_); (case hw => rfl)) | ((with_reducible refine k_turn ?hw ?_); (case hw => rfl)) | with_reducible refine r_isV ?_ | with_reducible refine r_isNotV ?_ | with_reducible refine r_isN ?_ | with_reducible refine r_notN ?_ | with_reducible refine w_lcZ ?_
  | ((with_reducible refine r_I ?hc ?_); (case hc => first | decide | assumption))
  | with_reducible refine w_forET ?_
  | ((with_reducible refine w_dnewK ?_); intro _ _ _ _ _) | with_reducible refine w_dput ?_ | with_reducible refine w_lstRg ?_ | with_reducible refine w_lstZip ?_ | with_reducible refine w_callK ?_
  | (with_reducible refine if_pos' ?_) | (with_reducible refine if_neg' ?_))
local macro_rules | `(tactic| walk_at "w") => `(tactic| repeat (walk_at "w1"))

section
variable {P : Program} {w : World} {K : PySem.W.Frag} {mg : Str → Option Value} {base : Heap}
abbrev s_of : Stmt := topS 47
theorem sc_of : FnScope ["deal", "some"] ["deal", "some"] (defScope s_of) := ⟨rfl, rfl, rfl, by decide +kernel, rfl, by decide +kernel, by decide +kernel⟩
theorem C_of (F : Fn K mg "_law_of" s_of ["deal", "some"]) (Z : Bz mg) (A : Cal P w K mg base 1 "_law_any" spAny) : Cal P w K mg base 2 "_law_of" spOf := by
  have S := sc_of
  refine F.cal S (fun vs H Q E h => ?_) (fun f cdv A' outer s H vs Q E hr h => ?_)
  · obtain ⟨D, L, p, xs, rfl, _⟩ := h; rfl
  · obtain ⟨D, L, p, xs, rfl, hd, hp, n1, n2, hl, hm, q⟩ := h
    refine ⟨_, (pss_one (ps_ret (pe_ix ix_list (pv 1) (pe_c0 A hr (by omega) (by rfl) (pa_cons (pv 0) (pa_cons (pe_callB (cr_len) (by rfl) Z.len (by decide +kernel) (pa_cons (pv 1) pa_nil)) pa_nil))) (fun _ _ => rfl)))), ?_⟩
    try dsimp only [cxOf, Cx.nox, Cx.wish]
    walk_at "w"
    refine r_len (.inl (.of hp)) rfl ?_
    walk_at "w"
    refine ⟨D, L, _, rfl, hd, by omega, small4000 (by omega), fun z H' z0 z1 d' k => ?_⟩
    obtain ⟨x, e, e'⟩ := atI_of (xs := xs) z0 z1
    refine r_ixL (.of (k.at hp (by simp [n1, n2]))) e ?_
    exact q _ _ _ e' d' k
abbrev s_draw : Stmt := topS 45
theorem sc_draw : FnScope ["script", "salt", "cells", "cell", "blend"] ["script", "salt"] (defScope s_draw) := ⟨rfl, rfl, rfl, by decide +kernel, rfl, by decide +kernel, by decide +kernel⟩
theorem C_draw (F : Fn K mg "_law_draw" s_draw ["script", "salt"]) (Z : Bz mg) : Cal P w K mg base 1 "_law_draw" (spDraw K) := by
  have S := sc_draw
  refine F.cal S (fun vs H Q E h => ?_) (fun f cdv A' outer s H vs Q E hr h => ?_)
  · obtain ⟨a, ns, salt, rfl, _⟩ := h; rfl
  · obtain ⟨a, ns, salt, rfl, ha, hl, hs0, hs1, q⟩ := h
    refine ⟨_, (pss_cons (ps_setLc (i := 2) (own := [("cell", 3)]) (g := (gName 3)) (tt := tYes) rfl S.nd rfl rfl (sw_true rfl rfl rfl (by decide +kernel)) (pi_list (pe_slice sl_list (pv 0) po_none (po_some pe_int))) (blkOk_by (N := ["script", "salt", "cells", "cell", "blend"]) (sc := defScope s_draw) (by decide +kernel)) (fun _ _ _ _ _ => (pg_name (i := 3) S.nd rfl (Or.inl rfl))) (fun _ _ _ _ _ => pts_nil) (fun _ _ _ _ _ => (pe_op op_mod (pe_callB (cr_abs) (by rfl) Z.abs (by decide +kernel) (pa_cons (pe_callTy (cr_int) (by rfl) Z.int (by decide +kernel) (pa_cons (pv 3) pa_nil)) pa_nil)) (pe_op op_pow pe_int pe_int))))
      (pss_cons (ps_set (i := 4) S.nd rfl (Or.inl rfl) (pe_op op_add pe_int (pe_op op_mulW pe_int (pv 1))))
      (pss_cons (ps_for PassesOwn.never rfl (pi_list (pv 2)) (pg_name (i := 3) S.nd rfl (Or.inl rfl)) (pss_one (ps_set (i := 4) S.nd rfl (Or.inl rfl) (pe_op op_mod (pe_callTy (cr_int) (by rfl) Z.int (by decide +kernel) (pa_cons (pe_op op_add (pe_op op_add (pe_op op_mulW (pv 4) pe_int) (pe_op op_mod (pv 3) pe_int)) pe_int) pa_nil)) pe_int))))
      (pss_one (ps_ret (pe_lst (pa_cons (pe_revL (pe_lc (own := [("cell", 3)]) (g := (gName 3)) rfl S.nd (pi_list (pv 2)) (blkOk_by (N := ["script", "salt", "cells", "cell", "blend"]) (sc := defScope s_draw) (by decide +kernel)) (fun _ _ _ _ _ => (pg_name (i := 3) S.nd rfl (Or.inl rfl))) (fun _ _ _ _ _ => (pts_one (pt_cmpR op_ge (pv 3) (pe_op op_pow pe_int pe_int) (nomark _)))) (fun _ _ _ _ _ => (pv 3)))) (pa_cons (pv 4) pa_nil)))))))), ?_⟩
    try dsimp only [cxOf, Cx.nox, Cx.wish]
    walk_at "w"
    refine r_slL ha fun l H1 hl1 e1 hl2 => ?_
    rw [show ((48 : Int)) = ((48 : Nat) : Int) from rfl, cut_to, ← List.map_take] at hl2
    obtain ⟨cs, hcs⟩ : ∃ cs : List Int, cs = (ns.take 48).map fun z => (z.natAbs : Int) % (10 : Int) ^ (60 : Int).toNat := ⟨_, rfl⟩
    have hcl : cs.length ≤ 48 := by rw [hcs, List.length_map, List.length_take]; omega
    have hc0 : ∀ z ∈ cs, 0 ≤ z := fun z hz => by
      rw [hcs] at hz
      obtain ⟨y, _, rfl⟩ := List.mem_map.mp hz
      exact Int.emod_nonneg _ (by decide)
    have hlen : ((ns.take 48).map V.int).length = cs.length := by rw [hcs, List.length_map, List.length_map]
    refine k_lcL (.of hl2) (lcL (xs := (ns.take 48).map V.int) (fun i acc D H' => Ex H1 H' ∧ acc = (cs.take i).map V.int) (fun D H2 _ e _ => ⟨e, rfl⟩) (fun i acc D H' _ p => p.1.sqL (.of hl2)) (fun i x acc D H' hx hlt hD hacc p => ?_) (fun acc D H' _ hD hacc p => ?_))
    · obtain ⟨e, rfl⟩ := p
      obtain ⟨z, hz, rfl⟩ := map_some hx
      have hi : i < 48 := by
        have h := (List.getElem?_eq_some_iff.mp hz).1
        rw [List.length_take] at h
        omega
      walk_at "w"
      refine r_I ⟨by decide, by decide, by decide⟩ ?_
      refine r_I (by decide) ?_
      refine k_lc hacc hlt (by omega) fun H5 h5 k5 => ⟨e.mut hD k5, ?_⟩
      have hz' : cs[i]? = some ((z.natAbs : Int) % (10 : Int) ^ (60 : Int).toNat) := by rw [hcs, List.getElem?_map, hz]; rfl
      rw [take_more hz', List.map_append]; rfl
    · obtain ⟨e, rfl⟩ := p
      rw [hlen, List.take_length] at hacc
      have eH : Ex H H' := e1.trans e
      walk_at "w"
      refine r_I (wide_mul (a := 20) (b := 20) (by decide) (by omega) (by decide) (by decide) (by decide)) ?_
      walk_at "w"
      refine k_forL (.of hacc) (fun i σ' H2 => H2 = H' ∧ ∃ b z3, σ' = [some (.ref a), some (.int salt), some (.ref D), z3, some (.int b)] ∧ 0 ≤ b ∧ b < 2147483647) ⟨rfl, _, none, rfl, by omega, by omega⟩ (fun i σ' H2 _ p => by rw [p.1]; exact .of hacc) (fun i x σ' H2 hx p => ?_) (fun σ' H2 p => ?_)
      · obtain ⟨rfl, b, z3, rfl, b0, b1⟩ := p
        obtain ⟨z, hz, rfl⟩ := map_some hx
        walk_at "w"
        refine r_I (wide_mul (a := 40) (b := 40) (by omega) (by decide) (by decide) (by decide) (by decide)) ?_
        walk_at "w"
        exact ⟨rfl, _, _, rfl, Int.emod_nonneg _ (by decide), Int.emod_lt_of_pos _ (by decide)⟩
      · obtain ⟨rfl, b, z3, rfl, b0, b1⟩ := p
        walk_at "w"
        refine k_lcL (.of hacc) (lcL (xs := cs.map V.int) (fun i acc D2 H3 => Ex H2 H3 ∧ ∃ st : List Int, acc = st.map V.int ∧ ∀ z ∈ st, 0 ≤ z) (fun D2 H3 _ e _ => ⟨e, [], rfl, by simp⟩) (fun i acc D2 H3 _ p => p.1.sqL (.of hacc)) (fun i x acc D2 H3 hx hlt hD2 hacc2 p => ?_) (fun acc D2 H3 hz hD2 hacc2 p => ?_))
        · obtain ⟨e3, st, rfl, hst⟩ := p
          obtain ⟨z, hz, rfl⟩ := map_some hx
          have hi : i < 48 := by have h := (List.getElem?_eq_some_iff.mp hz).1; omega
          walk_at "w"
          refine r_I ⟨by decide, by decide, by decide⟩ ?_
          walk_at "w"
          refine if_by (fun _ => ?_) (fun _ => ?_)
          · walk_at "w"
            refine k_lc hacc2 hlt (by omega) fun H5 h5 k5 => ⟨e3.mut hD2 k5, st ++ [z], by simp, fun y hy => ?_⟩
            rcases List.mem_append.mp hy with h | h
            · exact hst y h
            · rw [List.mem_singleton.mp h]; exact hc0 z (List.mem_of_getElem? hz)
          · exact k_lcN hacc2 hlt ⟨e3, st, rfl, hst⟩
        · obtain ⟨e3, st, rfl, hst⟩ := p
          refine k_revL (.of hacc2) fun l2 H4 hl4 e4 h4 => ?_
          walk_at "w"
          rename_i D5 H5 hD5 e5 h5
          refine q D5 l2 H5 (((eH.trans e3).trans e4).trans e5) ⟨st.reverse, b, ⟨h5, ?_, ?_, fun z hz => hst z (List.mem_reverse.mp hz), b0, b1⟩⟩
          · rw [List.map_reverse]; exact e5 _ _ h4
          · rw [List.length_map] at hz
            rw [List.length_reverse]
            rw [List.length_map] at hz
            omega
end
end BkL
end
section
namespace BkL
open PySem PySem.Spec L2 BkG
local macro_rules | `(tactic| walk_at "w1") => `(tactic| first
  | with_reducible refine w_seq ?_ | with_reducible refine w_set ?_ | with_reducible refine w_ret ?_ | with_reducible refine w_drop ?_ | with_reducible refine w_ifS ?_
  | with_reducible refine w_next ?_ | with_reducible refine w_c ?_ | ((with_reducible refine' w_var ?hv ?_); (case hv => rfl)) | with_reducible refine w_op ?_ | with_reducible refine w_cons ?_ | with_reducible refine w_nil ?_
  | with_reducible refine w_cb ?_ | with_reducible refine w_call ?_ | with_reducible refine w_tup ?_ | with_reducible refine w_lst ?_ | with_reducible refine w_bm ?_ | with_reducible refine w_bm0 ?_ | with_reducible refine w_un ?_
  | with_reducible refine w_test ?_ | with_reducible refine w_B ?_ | with_reducible refine k_B ?_ | with_reducible refine w_and ?_ | with_reducible refine w_or ?_ | with_reducible refine w_not ?_ | with_reducible refine w_if ?_
  | with_reducible refine w_andV ?_ | with_reducible refine w_orV ?_ | with_reducible refine w_notV ?_ | with_reducible refine k_andV ?_ | with_reducible refine k_orV ?_ | with_reducible refine k_notV ?_
  | with_reducible refine w_chain ?_ | with_reducible refine ex_bl ?_ | with_reducible refine w_isN ?_ | with_reducible refine w_notN ?_ | with_reducible refine w_yes ?_
  | with_reducible refine r_I0 ?_ | with_reducible refine r_U ?_ | with_reducible refine r_eqI ?_ | with_reducible refine r_neI ?_ | with_reducible refine r_eqS ?_ | with_reducible refine r_neS ?_ | with_reducible refine r_eqB ?_ | with_reducible refine r_neB ?_
  | with_reducible refine r_abs ?_ | with_reducible refine r_int ?_ | with_reducible refine r_intB ?_
  | with_reducible refine w_sl ?_ | with_reducible refine w_nop ?_ | with_reducible refine w_part ?_ | with_reducible refine k_part ?_ | with_reducible refine w_revL ?_
  | with_reducible refine w_asg ?_ | with_reducible refine w_gname ?_ | with_reducible refine w_gsub ?_ | with_reducible refine w_gnil ?_ | with_reducible refine w_gcons ?_ | with_reducible refine w_retN ?_ | with_reducible refine w_brk ?_ | with_reducible refine w_cont ?_
  | with_reducible refine w_par ?_ | with_reducible refine w_par3 ?_ | with_reducible refine par_ok ?_ | with_reducible refine par_ok3 ?_ | ((with_reducible refine' w_aug ?hv ?_); (case hv => rfl)) | with_reducible refine i_I ?_
  | with_reducible refine w_forL ?_ | with_reducible refine w_forT ?_ | with_reducible refine w_forR1 ?_ | with_reducible refine w_forE ?_ | with_reducible refine w_lcL ?_ | with_reducible refine w_lcT ?_ | with_reducible refine w_lcR ?_
  | ((with_reducible refine a_tup ?hz ?_); (case hz => exact Nat.le_of_ble_eq_true rfl); intro _ _ _ _ _) | ((with_reducible refine a_lst ?hz ?_); (case hz => exact Nat.le_of_ble_eq_true rfl); intro _ _ _ _ _)
  | ((with_reducible refine k_turn1 ?hw ?_); (case hw => rfl)) | ((with_reducible refine k_turn ?hw ?_); (case hw => rfl)) | with_reducible refine r_isV ?_ | with_reducible refine r_isNotV ?_ | with_reducible refine r_isN ?_ | with_reducible refine r_notN ?_ | with_reducible refine w_lcZ ?_
  | ((with_reducible refine r_I ?hc ?_); (case hc => first | decide | assumption))
  | with_reducible refine w_forET ?_
  | ((with_reducible refine w_dnewK ?_); intro _ _ _ _ _) | with_reducible refine w_dput ?_ | with_reducible refine w_lstRg ?_ | with_reducible refine w_lstZip ?_ | with_reducible refine w_callK ?_
  | (with_reducible refine if_pos' ?_) | (with_reducible refine if_neg' ?_))
local macro_rules | `(tactic| walk_at "w") => `(tactic| repeat (walk_at "w1"))

section
variable {P : Program} {w : World} {K : PySem.W.Frag} {mg : Str → Option Value} {base : Heap}
abbrev s_same : Stmt := topS 48
theorem sc_same : FnScope ["value", "due", "one", "other"] ["value", "due"] (defScope s_same) := ⟨rfl, rfl, rfl, by decide +kernel, rfl, by decide +kernel, by decide +kernel⟩
theorem C_same (F : Fn K mg "_law_same" s_same ["value", "due"]) (Z : Bz mg) (n : Nat) : Cal P w K mg base (n + 1) "_law_same" (spSame n) := by
  induction n with
  | zero => exact F.cal sc_same (fun vs H Q E h => h.elim) (fun f cdv A' outer s H vs Q E hr h => h.elim)
  | succ n ih =>
  have S := sc_same
  refine F.cal S (fun vs H Q E h => ?_) (fun f cdv A' outer s H vs Q E hr h => ?_)
  · obtain ⟨M, v, u, d, e, rfl, _⟩ := h; rfl
  · obtain ⟨M, v, u, d, e, rfl, hv, hu, ok, q⟩ := h
    refine ⟨_, (pss_cons (ps_if (pt_val (pe_callB call_isiT (by rfl) Z.isinstance (by decide +kernel) (pa_cons (pv 1) (pa_cons (pe_tup (pa_cons (pe_bltn (v := .ty "tuple") (by rfl) Z.tuple (by decide +kernel) rfl) (pa_cons (pe_bltn (v := .ty "list") (by rfl) Z.list (by decide +kernel) rfl) pa_nil))) pa_nil)))) (pss_cons (ps_if (PW.pt (pw_or (pt_cmpR op_ne (pe_callB call_isi (by rfl) Z.isinstance (by decide +kernel) (pa_cons (pv 1) (pa_cons (pe_bltn (v := .ty "tuple") (by rfl) Z.tuple (by decide +kernel) rfl) pa_nil))) (pe_callB call_isi (by rfl) Z.isinstance (by decide +kernel) (pa_cons (pv 0) (pa_cons (pe_bltn (v := .ty "tuple") (by rfl) Z.tuple (by decide +kernel) rfl) pa_nil))) (nomark _)) (pw_or (pt_not (pt_val (pe_callB call_isiT (by rfl) Z.isinstance (by decide +kernel) (pa_cons (pv 0) (pa_cons (pe_tup (pa_cons (pe_bltn (v := .ty "tuple") (by rfl) Z.tuple (by decide +kernel) rfl) (pa_cons (pe_bltn (v := .ty "list") (by rfl) Z.list (by decide +kernel) rfl) pa_nil))) pa_nil))))) (pw_or1 (pt_cmpR op_ne (pe_callB (cr_len) (by rfl) Z.len (by decide +kernel) (pa_cons (pv 0) pa_nil)) (pe_callB (cr_len) (by rfl) Z.len (by decide +kernel) (pa_cons (pv 1) pa_nil)) (nomark _)))))) (pss_one (ps_ret pe_bl)) pss_nil)
      (pss_one (ps_ret (pe_cmpR (op_eqD hr.units) (pe_lc (own := [("one", 2), ("other", 3)]) (g := (gTup K 2 (gCons (gName 2) (gCons (gName 3) gNil)))) rfl S.nd (RZ.pi_zipA (by rfl) Z.zip (pa_cons (pv 0) (pa_cons (pv 1) pa_nil))) (blkOk_by (N := ["value", "due", "one", "other"]) (sc := defScope s_same) (by decide +kernel)) (fun _ _ _ _ _ => (pg_tup rfl (pgs_cons (pg_name (i := 2) S.nd rfl (Or.inl rfl)) (pgs_cons (pg_name (i := 3) S.nd rfl (Or.inl rfl)) pgs_nil)))) (fun _ _ _ _ _ => (pts_one (pt_not (pt_val (pe_c0 ih hr (by omega) (by rfl) (pa_cons (pv 2) (pa_cons (pv 3) pa_nil))))))) (fun _ _ _ _ _ => pe_int)) (pe_lst pa_nil) (nomark _))))) pss_nil)
      (pss_cons (ps_if (pt_cmpR op_isN1 (pv 1) pe_non (nomark _)) (pss_one (ps_ret (pe_cmpR op_isN1 (pv 0) pe_non (nomark _)))) pss_nil)
      (pss_cons (ps_if (pt_cmpR op_isV (pv 1) pe_bl (nomark _)) (pss_one (ps_ret (pe_cmpR op_isV (pv 0) pe_bl (nomark _)))) pss_nil)
      (pss_cons (ps_if (pt_cmpR op_isV (pv 1) pe_bl (nomark _)) (pss_one (ps_ret (pe_cmpR op_isV (pv 0) pe_bl (nomark _)))) pss_nil)
      (pss_cons (ps_if (pt_val (pe_callB call_isi (by rfl) Z.isinstance (by decide +kernel) (pa_cons (pv 1) (pa_cons (pe_bltn (v := .ty "int") (by rfl) Z.int (by decide +kernel) rfl) pa_nil)))) (pss_one (ps_ret (pe_and (pe_callB call_isi (by rfl) Z.isinstance (by decide +kernel) (pa_cons (pv 0) (pa_cons (pe_bltn (v := .ty "int") (by rfl) Z.int (by decide +kernel) rfl) pa_nil))) (pe_and (pe_not (pe_callB call_isi (by rfl) Z.isinstance (by decide +kernel) (pa_cons (pv 0) (pa_cons (pe_bltn (v := .ty "bool") (by rfl) Z.bool (by decide +kernel) rfl) pa_nil)))) (pe_one (pe_cmpR op_eq (pv 0) (pv 1) (nomark _))))))) pss_nil)
      (pss_one (ps_ret (pe_and (pe_callB call_isi (by rfl) Z.isinstance (by decide +kernel) (pa_cons (pv 0) (pa_cons (pe_bltn (v := .ty "str") (by rfl) Z.str (by decide +kernel) rfl) pa_nil))) (pe_one (pe_cmpR op_eq (pv 0) (pv 1) (nomark _))))))))))), ?_⟩
    try dsimp only [cxOf, Cx.nox, Cx.wish]
    walk_at "w"
    rename_i p H1 hp e1 hp1
    refine r_isiTL hp1 (hu.ex e1) ?_
    walk_at "w"
    refine if_by (fun hs => ?_) (fun hs => ?_)
    · walk_at "w"
      refine r_isiTup (hu.ex e1) ?_
      walk_at "w"
      refine r_isiTup (hv.ex e1) ?_
      walk_at "w"
      refine if_by (fun hne => ?_) (fun heq => ?_)
      · walk_at "w"
        have h3 : isTup e ≠ isTup d := by simpa using hne
        have q' := q H1 e1
        rw [same_no hs (.inl h3)] at q'
        exact q'
      · have h3 : isTup e = isTup d := by simpa using heq
        walk_at "w"
        rename_i p2 H2 hp2 e2 hp2'
        refine r_isiTL hp2' ((hv.ex e1).ex e2) ?_
        walk_at "w"
        have e12 := e1.trans e2
        refine if_by (fun hns => ?_) (fun hsq => ?_)
        · walk_at "w"
          have h4 : (isTup d || isLst d) = false := by simpa using hns
          have q' := q H2 e12
          rw [same_no hs (.inr h4)] at q'
          exact q'
        · have h4 : (isTup d || isLst d) = true := by cases hh : (isTup d || isLst d) with
            | true => rfl
            | false => rw [hh] at hsq; cases hsq
          walk_at "w"
          rcases same_seq h4 hs h3 with ⟨ds, es, rfl, rfl⟩ | ⟨ds, es, rfl, rfl⟩
          · obtain ⟨a, xs, rfl, ha, la, ta⟩ := hv.tup_inv
            obtain ⟨b, ys, rfl, hb, lb, tb⟩ := hu.tup_inv
            refine r_len (.inr (.of (e12 _ _ ha))) rfl ?_
            walk_at "w"
            refine r_len (.inr (.of (e12 _ _ hb))) rfl ?_
            walk_at "w"
            cases n with
            | zero => simp [okD] at ok
            | succ n =>
            simp only [okD, Bool.and_eq_true, decide_eq_true_eq, List.all_eq_true] at ok
            refine if_by (fun hl => ?_) (fun hl => ?_)
            · walk_at "w"
              have hl' : ds.length ≠ es.length := by intro z; apply absurd hl; simp; omega
              have q' := q H2 e12
              rw [show smD (.tuple ds) (.tuple es) = smAll ds es by simp [smD], smAll_len hl'] at q'
              exact q'
            · have hl' : ds.length = es.length := by
                have hl2 : ((xs.length : Int) = (ys.length : Int)) := by simpa using hl
                omega
              walk_at "w"
              refine ⟨a, b, xs, ys, rfl, .inr ⟨.of (e12 _ _ ha), .of (e12 _ _ hb), ?_⟩⟩
              refine lcZT (by omega) (fun i acc D H' => Ex H2 H' ∧ ∃ zs : List Int, acc = zs.map V.int ∧ (zs = [] ↔ ∀ (j : Nat) (x y : PyData), j < i → ds[j]? = some x → es[j]? = some y → smD x y = true))
                (fun D H3 _ e3 _ => ⟨e3, [], rfl, by simp⟩) (fun i acc D H' _ p => ⟨.of (p.1 _ _ (e12 _ _ ha)), .of (p.1 _ _ (e12 _ _ hb))⟩) (fun i x y acc D H' T H3 hx hy hlt hD hacc p e3 hT => ?_) (fun acc D H' _ hD hacc p => ?_)
              · obtain ⟨e4, zs, rfl, hz⟩ := p
                obtain ⟨dx, hdx⟩ := get_of_len la hx
                obtain ⟨dy, hdy⟩ := get_of_len lb hy
                have hi : i < 90000 := by have h := (List.getElem?_eq_some_iff.mp hx).1; omega
                have e23 := (e12.trans e4).trans e3
                refine w_gtup (.of hT) rfl ?_
                walk_at "w"
                refine ⟨M, x, y, dx, dy, rfl, (ta i x dx hx hdx).ex e23, (tb i y dy hy hdy).ex e23, ok.2 dx (List.mem_of_getElem? hdx), fun H4 e4' => ?_⟩
                walk_at "w"
                refine if_by (fun hu' => ?_) (fun hu' => ?_)
                · have hsame : smD dx dy = false := by simpa using hu'
                  walk_at "w"
                  refine k_lc (e4' _ _ hacc) hlt hi fun H5 h5 k5 => ⟨Ex.mut ((e4.trans e3).trans e4') hD k5, zs ++ [0], by simp, ?_⟩
                  constructor
                  · intro z; simp at z
                  · intro g
                    have := g i dx dy (Nat.lt_succ_self i) hdx hdy
                    rw [hsame] at this; cases this
                · have hsame : smD dx dy = true := by simpa using hu'
                  refine k_lcN (e4' _ _ hacc) hlt ⟨(e4.trans e3).trans e4', zs, rfl, ?_⟩
                  rw [hz]
                  constructor
                  · intro g j x' y' hj h1 h2
                    by_cases hji : j = i
                    · subst hji
                      rw [hdx] at h1; rw [hdy] at h2; cases h1; cases h2; exact hsame
                    · exact g j x' y' (by omega) h1 h2
                  · intro g j x' y' hj; exact g j x' y' (by omega)
              · obtain ⟨e4, zs, rfl, hz⟩ := p
                walk_at "w"
                rename_i p5 H5 hp5 e5 hp5'
                refine r_eqD (dp_ints (.of (e5 _ _ hacc))) (.lst (.of hp5') .nil) (shaped_ints _) (by rfl) ?_
                rw [eqv_nil]
                have q' := q H5 ((e12.trans e4).trans e5)
                rw [show smD (.tuple ds) (.tuple es) = smAll ds es by simp [smD]] at q'
                have fin : (zs.map PyData.int).isEmpty = smAll ds es := by
                  rw [Bool.eq_iff_iff, smAll_iff hl', List.isEmpty_iff, List.map_eq_nil_iff, hz]
                  constructor
                  · intro g i x y h1 h2; exact g i x y (by have := (List.getElem?_eq_some_iff.mp h1).1; omega) h1 h2
                  · intro g j x y _ h1 h2; exact g j x y h1 h2
                rw [fin]; exact q'
          · obtain ⟨a, xs, rfl, ha, na, la, ta⟩ := hv.lst_inv
            obtain ⟨b, ys, rfl, hb, nb, lb, tb⟩ := hu.lst_inv
            refine r_len (.inl (.of (e12 _ _ ha))) rfl ?_
            walk_at "w"
            refine r_len (.inl (.of (e12 _ _ hb))) rfl ?_
            walk_at "w"
            cases n with
            | zero => simp [okD] at ok
            | succ n =>
            simp only [okD, Bool.and_eq_true, decide_eq_true_eq, List.all_eq_true] at ok
            refine if_by (fun hl => ?_) (fun hl => ?_)
            · walk_at "w"
              have hl' : ds.length ≠ es.length := by intro z; apply absurd hl; simp; omega
              have q' := q H2 e12
              rw [show smD (.list ds) (.list es) = smAll ds es by simp [smD], smAll_len hl'] at q'
              exact q'
            · have hl' : ds.length = es.length := by
                have hl2 : ((xs.length : Int) = (ys.length : Int)) := by simpa using hl
                omega
              walk_at "w"
              refine ⟨a, b, xs, ys, rfl, .inl ⟨.of (e12 _ _ ha), .of (e12 _ _ hb), ?_⟩⟩
              refine lcZL (by omega) (fun i acc D H' => Ex H2 H' ∧ ∃ zs : List Int, acc = zs.map V.int ∧ (zs = [] ↔ ∀ (j : Nat) (x y : PyData), j < i → ds[j]? = some x → es[j]? = some y → smD x y = true))
                (fun D H3 _ e3 _ => ⟨e3, [], rfl, by simp⟩) (fun i acc D H' _ p => ⟨.of (p.1 _ _ (e12 _ _ ha)), .of (p.1 _ _ (e12 _ _ hb))⟩) (fun i x y acc D H' T H3 hx hy hlt hD hacc p e3 hT => ?_) (fun acc D H' _ hD hacc p => ?_)
              · obtain ⟨e4, zs, rfl, hz⟩ := p
                obtain ⟨dx, hdx⟩ := get_of_len la hx
                obtain ⟨dy, hdy⟩ := get_of_len lb hy
                have hi : i < 90000 := by have h := (List.getElem?_eq_some_iff.mp hx).1; omega
                have e23 := (e12.trans e4).trans e3
                refine w_gtup (.of hT) rfl ?_
                walk_at "w"
                refine ⟨M, x, y, dx, dy, rfl, (ta i x dx hx hdx).ex e23, (tb i y dy hy hdy).ex e23, ok.2 dx (List.mem_of_getElem? hdx), fun H4 e4' => ?_⟩
                walk_at "w"
                refine if_by (fun hu' => ?_) (fun hu' => ?_)
                · have hsame : smD dx dy = false := by simpa using hu'
                  walk_at "w"
                  refine k_lc (e4' _ _ hacc) hlt hi fun H5 h5 k5 => ⟨Ex.mut ((e4.trans e3).trans e4') hD k5, zs ++ [0], by simp, ?_⟩
                  constructor
                  · intro z; simp at z
                  · intro g
                    have := g i dx dy (Nat.lt_succ_self i) hdx hdy
                    rw [hsame] at this; cases this
                · have hsame : smD dx dy = true := by simpa using hu'
                  refine k_lcN (e4' _ _ hacc) hlt ⟨(e4.trans e3).trans e4', zs, rfl, ?_⟩
                  rw [hz]
                  constructor
                  · intro g j x' y' hj h1 h2
                    by_cases hji : j = i
                    · subst hji
                      rw [hdx] at h1; rw [hdy] at h2; cases h1; cases h2; exact hsame
                    · exact g j x' y' (by omega) h1 h2
                  · intro g j x' y' hj; exact g j x' y' (by omega)
              · obtain ⟨e4, zs, rfl, hz⟩ := p
                walk_at "w"
                rename_i p5 H5 hp5 e5 hp5'
                refine r_eqD (dp_ints (.of (e5 _ _ hacc))) (.lst (.of hp5') .nil) (shaped_ints _) (by rfl) ?_
                rw [eqv_nil]
                have q' := q H5 ((e12.trans e4).trans e5)
                rw [show smD (.list ds) (.list es) = smAll ds es by simp [smD]] at q'
                have fin : (zs.map PyData.int).isEmpty = smAll ds es := by
                  rw [Bool.eq_iff_iff, smAll_iff hl', List.isEmpty_iff, List.map_eq_nil_iff, hz]
                  constructor
                  · intro g i x y h1 h2; exact g i x y (by have := (List.getElem?_eq_some_iff.mp h1).1; omega) h1 h2
                  · intro g j x y _ h1 h2; exact g j x y h1 h2
                rw [fin]; exact q'
    · walk_at "w"
      have q' := q H1 e1
      have hv1 := hv.ex e1
      cases hu with
      | lst h n l t => simp [isTup, isLst] at hs
      | tup h l t => simp [isTup, isLst] at hs
      | non =>
        refine if_dt (by rfl) ?_
        walk_at "w"
        rw [show decide (v = .non) = smD d .none by cases hv1 <;> simp [smD]]
        exact q'
      | bl b =>
        refine if_df (by rfl) ?_
        walk_at "w"
        cases b with
        | true =>
          refine if_dt (by rfl) ?_
          walk_at "w"
          rw [show decide (v = .bl true) = smD d (.bool true) by cases hv1 <;> simp [smD]]
          exact q'
        | false =>
          refine if_df (by rfl) ?_
          walk_at "w"
          refine if_dt (by rfl) ?_
          walk_at "w"
          rw [show decide (v = .bl false) = smD d (.bool false) by cases hv1 <;> simp [smD]]
          exact q'
      | int i =>
        refine if_df (by rfl) ?_
        walk_at "w"
        refine if_df (by rfl) ?_
        walk_at "w"
        refine if_df (by rfl) ?_
        walk_at "w"
        refine r_isiInt (.int (M := M) i) ?_
        walk_at "w"
        refine if_dt (by rfl) ?_
        walk_at "w"
        refine r_isiInt hv1 ?_
        walk_at "w"
        cases hv1 with
        | int j =>
          refine if_dt (by rfl) ?_
          walk_at "w"
          refine r_isiBool (.int (M := M) j) ?_
          walk_at "w"
          refine if_dt (by rfl) ?_
          walk_at "w"
          rw [show decide (j = i) = smD (.int j) (.int i) by simp [smD]; rfl]
          exact q'
        | bl b =>
          refine if_dt (by rfl) ?_
          walk_at "w"
          refine r_isiBool (.bl (M := M) b) ?_
          walk_at "w"
          refine if_df (by rfl) ?_
          simpa [smD] using q'
        | _ => refine if_df (by rfl) ?_; simpa [smD] using q'
      | str x =>
        refine if_df (by rfl) ?_
        walk_at "w"
        refine if_df (by rfl) ?_
        walk_at "w"
        refine if_df (by rfl) ?_
        walk_at "w"
        refine r_isiInt (.str (M := M) x) ?_
        walk_at "w"
        refine if_df (by rfl) ?_
        walk_at "w"
        refine r_isiStr hv1 ?_
        walk_at "w"
        cases hv1 with
        | str y =>
          refine if_dt (by rfl) ?_
          walk_at "w"
          rw [show decide (y = x) = smD (.str y) (.str x) by simp [smD]; rfl]
          exact q'
        | _ => refine if_df (by rfl) ?_; simpa [smD] using q'
end
end BkL
end
section
namespace BkL
open PySem PySem.Spec L2 BkG
local macro_rules | `(tactic| walk_at "w1") => `(tactic| first
  | with_reducible refine w_seq ?_ | with_reducible refine w_set ?_ | with_reducible refine w_ret ?_ | with_reducible refine w_drop ?_ | with_reducible refine w_ifS ?_
  | with_reducible refine w_next ?_ | with_reducible refine w_c ?_ | ((with_reducible refine' w_var ?hv ?_); (case hv => rfl)) | with_reducible refine w_op ?_ | with_reducible refine w_cons ?_ | with_reducible refine w_nil ?_
  | with_reducible refine w_cb ?_ | with_reducible refine w_call ?_ | with_reducible refine w_tup ?_ | with_reducible refine w_lst ?_ | with_reducible refine w_bm ?_ | with_reducible refine w_bm0 ?_ | with_reducible refine w_un ?_
  | with_reducible refine w_test ?_ | with_reducible refine w_B ?_ | with_reducible refine k_B ?_ | with_reducible refine w_and ?_ | with_reducible refine w_or ?_ | with_reducible refine w_not ?_ | with_reducible refine w_if ?_
  | with_reducible refine w_andV ?_ | with_reducible refine w_orV ?_ | with_reducible refine w_notV ?_ | with_reducible refine k_andV ?_ | with_reducible refine k_orV ?_ | with_reducible refine k_notV ?_
  | with_reducible refine w_chain ?_ | with_reducible refine ex_bl ?_ | with_reducible refine w_isN ?_ | with_reducible refine w_notN ?_ | with_reducible refine w_yes ?_
  | with_reducible refine r_I0 ?_ | with_reducible refine r_U ?_ | with_reducible refine r_eqI ?_ | with_reducible refine r_neI ?_ | with_reducible refine r_eqS ?_ | with_reducible refine r_neS ?_ | with_reducible refine r_eqB ?_ | with_reducible refine r_neB ?_
  | with_reducible refine r_abs ?_ | with_reducible refine r_int ?_ | with_reducible refine r_intB ?_
  | with_reducible refine w_sl ?_ | with_reducible refine w_nop ?_ | with_reducible refine w_part ?_ | with_reducible refine k_part ?_ | with_reducible refine w_revL ?_
  | with_reducible refine w_asg ?_ | with_reducible refine w_gname ?_ | with_reducible refine w_gsub ?_ | with_reducible refine w_gnil ?_ | with_reducible refine w_gcons ?_ | with_reducible refine w_retN ?_ | with_reducible refine w_brk ?_ | with_reducible refine w_cont ?_
  | with_reducible refine w_par ?_ | with_reducible refine w_par3 ?_ | with_reducible refine par_ok ?_ | with_reducible refine par_ok3 ?_ | ((with_reducible refine' w_aug ?hv ?_); (case hv => rfl)) | with_reducible refine i_I ?_
  | with_reducible refine w_forL ?_ | with_reducible refine w_forT ?_ | with_reducible refine w_forR1 ?_ | with_reducible refine w_forE ?_ | with_reducible refine w_lcL ?_ | with_reducible refine w_lcT ?_ | with_reducible refine w_lcR ?_
  | ((with_reducible refine a_tup ?hz ?_); (case hz => exact Nat.le_of_ble_eq_true rfl); intro _ _ _ _ _) | ((with_reducible refine a_lst ?hz ?_); (case hz => exact Nat.le_of_ble_eq_true rfl); intro _ _ _ _ _)
  | ((with_reducible refine k_turn1 ?hw ?_); (case hw => rfl)) | ((with_reducible refine k_turn ?hw ?_); (case hw => rfl)) | with_reducible refine r_isV ?_ | with_reducible refine r_isNotV ?_ | with_reducible refine r_isN ?_ | with_reducible refine r_notN ?_ | with_reducible refine w_lcZ ?_
  | ((with_reducible refine r_I ?hc ?_); (case hc => first | decide | assumption))
  | with_reducible refine w_forET ?_
  | ((with_reducible refine w_dnewK ?_); intro _ _ _ _ _) | with_reducible refine w_dput ?_ | with_reducible refine w_lstRg ?_ | with_reducible refine w_lstZip ?_ | with_reducible refine w_callK ?_
  | (with_reducible refine if_pos' ?_) | (with_reducible refine if_neg' ?_))
local macro_rules | `(tactic| walk_at "w") => `(tactic| repeat (walk_at "w1"))

local macro_rules | `(tactic| walk_at "s") => `(tactic| repeat (first | walk_at "w1" | with_reducible refine w_lcS ?_ | with_reducible refine w_m1 ?_ | with_reducible refine w_m0 ?_ | with_reducible refine k_m1 ?_ | with_reducible refine k_m0 ?_ | with_reducible refine k_lcS ?_ | refine r_catS (by decide +kernel) ?_))
section
variable {P : Program} {w : World} {K : PySem.W.Frag} {mg : Str → Option Value} {base : Heap}
abbrev s_inner : Stmt := topS 28
theorem sc_inner : FnScope ["value", "word", "many"] ["value"] (defScope s_inner) := ⟨rfl, rfl, rfl, by decide +kernel, rfl, by decide +kernel, by decide +kernel⟩
theorem C_inner (F : Fn K mg "inner_of_expression" s_inner ["value"]) (Z : Bz mg) (gT_PAIRS : ∃ pa, (∃ u, mg "PAIRS" = some u ∧ RelV (.ref pa) u) ∧ ∀ H, SqT K H pa pairsP) (C1 : Cal P w K mg base 1 "is_integer" spIntg) (CN : CalK P w K mg base 1 "is_name" ["value"] spNameX) : Cal P w K mg base 2 "inner_of_expression" spInner := by
  have S := sc_inner
  obtain ⟨pa, g_PAIRS, gp⟩ := gT_PAIRS
  refine F.cal S (fun vs H Q E h => ?_) (fun f cdv A' outer s H vs Q E hr h => ?_)
  · obtain ⟨M, v, d, rfl, _⟩ := h; rfl
  · obtain ⟨M, v, d, rfl, hv, hf, q⟩ := h
    refine ⟨_, (pss_cons (ps_if (PW.pt (pw_or (pt_not (pt_val (pe_callB call_isi (by rfl) Z.isinstance (by decide +kernel) (pa_cons (pv 0) (pa_cons (pe_bltn (v := .ty "tuple") (by rfl) Z.tuple (by decide +kernel) rfl) pa_nil))))) (pw_or (pt_cmpR op_lt (pe_callB (cr_len) (by rfl) Z.len (by decide +kernel) (pa_cons (pv 0) pa_nil)) pe_int (nomark _)) (pw_or1 (pt_not (pt_val (pe_callB call_isi (by rfl) Z.isinstance (by decide +kernel) (pa_cons (pe_ix ix_tup (pv 0) pe_int (fun _ _ => rfl)) (pa_cons (pe_bltn (v := .ty "str") (by rfl) Z.str (by decide +kernel) rfl) pa_nil))))))))) (pss_one (ps_ret (pe_tup (pa_cons (pe_tup pa_nil) (pa_cons pe_bl pa_nil))))) pss_nil)
      (pss_cons (ps_par (i := 1) (j := 2) rfl S.nd rfl rfl (by decide) rfl rfl (pa_cons (pe_ix ix_tup (pv 0) pe_int (fun _ _ => rfl)) (pa_cons (pe_callB (cr_len) (by rfl) Z.len (by decide +kernel) (pa_cons (pv 0) pa_nil)) pa_nil)) (by rfl))
      (pss_cons (ps_if (pt_cmpR op_eq (pv 1) pe_str (nomark _)) (pss_one (ps_ret (pe_tup (pa_cons (pe_tup pa_nil) (pa_cons (pe_and (pe_cmpR op_eq (pv 2) pe_int (nomark _)) (pe_and (pe_c0 C1 hr (by omega) (by rfl) (pa_cons (pe_ix ix_tup (pv 0) pe_int (fun _ _ => rfl)) pa_nil)) (pe_one (pe_cmpR op_ge (pe_ix ix_tup (pv 0) pe_int (fun _ _ => rfl)) pe_int (nomark _))))) pa_nil))))) pss_nil)
      (pss_cons (ps_if (pt_cmpR op_in_seq (pv 1) (pe_tup (pa_cons pe_str (pa_cons pe_str (pa_cons pe_str pa_nil)))) (by rfl)) (pss_one (ps_ret (pe_tup (pa_cons (pe_tup pa_nil) (pa_cons (pe_and (pe_cmpR op_eq (pv 2) pe_int (nomark _)) (pe_one (pe_c0 CN.cal hr (by omega) (by rfl) (pa_cons (pe_ix ix_tup (pv 0) pe_int (fun _ _ => rfl)) pa_nil)))) pa_nil))))) pss_nil)
      (pss_cons (ps_if (pt_cmpR op_eq (pv 1) pe_str (nomark _)) (pss_one (ps_ret (pe_tup (pa_cons (pe_slice sl_tupA (pv 0) (po_some pe_int) po_none) (pa_cons (pe_and (pe_cmpR op_eq (pv 2) pe_int (nomark _)) (pe_one (pe_c0 CN.cal hr (by omega) (by rfl) (pa_cons (pe_ix ix_tup (pv 0) pe_int (fun _ _ => rfl)) pa_nil)))) pa_nil))))) pss_nil)
      (pss_cons (ps_if (pt_cmpR op_eq (pv 1) pe_str (nomark _)) (pss_one (ps_ret (pe_tup (pa_cons (pe_slice sl_tupA (pv 0) (po_some pe_int) po_none) (pa_cons (pe_cmpR op_eq (pv 2) pe_int (nomark _)) pa_nil))))) pss_nil)
      (pss_one (ps_ret (pe_tup (pa_cons (pe_slice sl_tupA (pv 0) (po_some pe_int) po_none) (pa_cons (pe_and (pe_cmpR op_in_seq (pv 1) (pe_gc (by rfl) g_PAIRS) (by rfl)) (pe_one (pe_cmpR op_eq (pv 2) pe_int (nomark _)))) pa_nil))))))))))), ?_⟩
    try dsimp only [cxOf, Cx.nox, Cx.wish]
    have fin : ∀ (rs : List PyData) (b : Bool), innerD d = (rs, b) → ∀ (p q : Addr) (xs : List V) (H' : Hp), Ex H H' → H' p = some (.tup [.ref q, .bl b]) → H' q = some (.tup xs) → Rel M H' xs rs → Q (.ref p) H' := by
      intro rs b e p q' xs H' e' h1 h2 h3
      have q2 := q p q' xs H' e'
      rw [e] at q2
      exact q2 h1 h2 h3
    clear q
    walk_at "s"
    refine r_isiTup hv ?_
    walk_at "s"
    refine if_by (fun h => ?_) (fun h => ?_)
    · have e : isTup d = false := by simpa using h
      walk_at "s"
      rename_i p1 H1 hp1 e1 h1 p2 H2 hp2 e2 h2
      exact fin [] false (by cases d <;> first | rfl | (simp [isTup] at e; done)) _ _ _ _ (e1.trans e2) h2 (e2 _ _ h1) Rel.nil
    obtain ⟨ds, rfl⟩ : ∃ ds, d = .tuple ds := by cases d <;> simp [isTup] at h ⊢
    obtain ⟨a, xs, rfl, ha, hr'⟩ := Rel.of_tup hv
    walk_at "s"
    refine r_len (.inr (.of ha)) rfl ?_
    walk_at "s"
    refine if_by (fun h => ?_) (fun h => ?_)
    · have e : ds.length < 2 := by
        have h' : (xs.length : Int) < 2 := of_decide_eq_true h
        have := hr'.1
        omega
      walk_at "s"
      rename_i p1 H1 hp1 e1 h1 p2 H2 hp2 e2 h2
      refine fin [] false ?_ _ _ _ _ (e1.trans e2) h2 (e2 _ _ h1) Rel.nil
      rcases ds with _ | ⟨x, _ | ⟨y, r⟩⟩
      · rfl
      · cases x <;> rfl
      · exact absurd e (by simp)
    have e2l : 2 ≤ ds.length := by
      have h' : ¬ (xs.length : Int) < 2 := of_decide_eq_false h
      have := hr'.1
      omega
    obtain ⟨d0, d1, r, rfl⟩ : ∃ x y r, ds = x :: y :: r := by
      rcases ds with _ | ⟨x, _ | ⟨y, r⟩⟩
      · exact absurd e2l (by simp)
      · exact absurd e2l (by simp)
      · exact ⟨_, _, _, rfl⟩
    obtain ⟨x0, xs', rfl, hx0, hr1⟩ := hr'.head
    obtain ⟨x1, xr, rfl, hx1, hr2⟩ := hr1.head
    have hlr := hr2.1
    walk_at "s"
    refine r_ixT (.of ha) (v := x0) (atI_nn (j := 0) rfl rfl) ?_
    walk_at "s"
    refine r_isiStr hx0 ?_
    walk_at "s"
    refine if_by (fun h => ?_) (fun h => ?_)
    · have e : isStr d0 = false := by simpa using h
      walk_at "s"
      rename_i p1 H1 hp1 e1 h1 p2 H2 hp2 e2 h2
      exact fin [] false (by cases d0 <;> first | rfl | (simp [isStr] at e; done)) _ _ _ _ (e1.trans e2) h2 (e2 _ _ h1) Rel.nil
    obtain ⟨w, rfl⟩ : ∃ w, d0 = .str w := by cases d0 <;> simp [isStr] at h ⊢
    cases hx0
    have f1 : fine 63 d1 = true := fine.tup_in hf (by simp)
    walk_at "s"
    refine r_ixT (.of ha) (v := .str w) (atI_nn (j := 0) rfl rfl) ?_
    walk_at "s"
    refine r_len (.inr (.of ha)) rfl ?_
    walk_at "s"
    have hm2 : ∀ {b : Bool}, decide ((((V.str w :: x1 :: xr).length : Nat) : Int) = 2) = b → r.isEmpty = b := by
      intro b h
      rw [← h]
      rcases r with _ | ⟨y, r⟩
      · have : xr.length = 0 := hlr
        symm
        simp [this]
      · have : xr.length = r.length + 1 := hlr
        symm
        simp [this]
        omega
    have hm3 : ∀ {b : Bool}, decide ((((V.str w :: x1 :: xr).length : Nat) : Int) = 3) = b → decide (r.length = 1) = b := by
      intro b h
      rw [← h]
      refine decide_eq_decide.mpr ?_
      rw [List.length_cons, List.length_cons, hlr]
      omega
    refine if_by (fun h => ?_) (fun h => ?_)
    · have hw := of_decide_eq_true h
      walk_at "s"
      rename_i p1 H1 hp1 e1 h1
      have inn : ∀ b, (r.isEmpty && natI d1) = b → innerD (.tuple (.str w :: d1 :: r)) = ([], b) := fun b hb => by unfold innerD; simp only [hw, if_true]; rw [hb]
      refine if_by (fun h => ?_) (fun h => ?_)
      · have h2 := hm2 h
        walk_at "s"
        refine r_ixT (.of (e1 _ _ ha)) (v := x1) (atI_nn (j := 1) rfl rfl) ?_
        walk_at "s"
        refine ⟨M, x1, d1, rfl, hx1.ex e1, ?_⟩
        walk_at "s"
        refine if_by (fun h => ?_) (fun h => ?_)
        · obtain ⟨n, rfl⟩ : ∃ n, d1 = .int n := by cases d1 <;> simp [isIntg] at h ⊢
          cases hx1
          walk_at "s"
          refine r_ixT (.of (e1 _ _ ha)) (v := .int n) (atI_nn (j := 1) rfl rfl) ?_
          walk_at "s"
          rename_i p2 H2 hp2 e2 h2'
          exact fin [] _ (inn _ (by rw [h2]; rfl)) _ _ _ _ (e1.trans e2) h2' (e2 _ _ h1) Rel.nil
        · walk_at "s"
          rename_i p2 H2 hp2 e2 h2'
          refine fin [] _ (inn _ ?_) _ _ _ _ (e1.trans e2) h2' (e2 _ _ h1) Rel.nil
          rw [h2]
          cases d1 <;> simp [isIntg, natI] at h ⊢
      · have h2 := hm2 h
        walk_at "s"
        rename_i p2 H2 hp2 e2 h2'
        exact fin [] _ (inn _ (by rw [h2]; rfl)) _ _ _ _ (e1.trans e2) h2' (e2 _ _ h1) Rel.nil
    have hw1 : ¬ w = "num" := of_decide_eq_false h
    walk_at "s"
    rename_i p0 H0 hp0 e0 h0
    refine r_in (.inr (.of h0)) rfl (by rfl) ?_
    walk_at "s"
    refine if_by (fun h => ?_) (fun h => ?_)
    · have hw2 : ntm w = true := h
      walk_at "s"
      rename_i p1 H1 hp1 e1 h1
      have e01 := e0.trans e1
      have inn : ∀ b, (r.isEmpty && isNameD d1) = b → innerD (.tuple (.str w :: d1 :: r)) = ([], b) := fun b hb => by unfold innerD; simp only [hw1, hw2, if_true, if_false]; rw [hb]
      refine if_by (fun h => ?_) (fun h => ?_)
      · have h2 := hm2 h
        walk_at "s"
        refine r_ixT (.of (e01 _ _ ha)) (v := x1) (atI_nn (j := 1) rfl rfl) ?_
        walk_at "s"
        refine ⟨M, x1, d1, rfl, hx1.ex e01, fine.shortS f1, fun H2 e2 => ?_⟩
        walk_at "s"
        rename_i p3 H3 hp3 e3 h3
        exact fin [] _ (inn _ (by rw [h2]; rfl)) _ _ _ _ ((e01.trans e2).trans e3) h3 ((e2.trans e3) _ _ h1) Rel.nil
      · have h2 := hm2 h
        walk_at "s"
        rename_i p2 H2 hp2 e2 h2'
        exact fin [] _ (inn _ (by rw [h2]; rfl)) _ _ _ _ (e01.trans e2) h2' (e2 _ _ h1) Rel.nil
    have hw2 : ¬ ntm w = true := fun z => by
      have h' : ntm w = false := h
      rw [h'] at z; cases z
    walk_at "s"
    refine if_by (fun h => ?_) (fun h => ?_)
    · have hw3 := of_decide_eq_true h
      walk_at "s"
      refine r_slTfrom (k := 2) (e0 _ _ ha) (by decide) (by simp) fun p1 H1 e1 h1 => ?_
      have e01 := e0.trans e1
      walk_at "s"
      have inn : ∀ b, (decide (r.length = 1) && isNameD d1) = b → innerD (.tuple (.str w :: d1 :: r)) = (r, b) := fun b hb => by
        unfold innerD
        have n2 : ¬ ntm "at" = true := by decide +kernel
        have n1 : ¬ ("at" : Str) = "num" := by decide +kernel
        rw [hw3]
        simp only [n1, n2, if_true, if_false, Bool.false_eq_true]; rw [hb]
      refine if_by (fun h => ?_) (fun h => ?_)
      · have h2 := hm3 h
        walk_at "s"
        refine r_ixT (.of (e01 _ _ ha)) (v := x1) (atI_nn (j := 1) rfl rfl) ?_
        walk_at "s"
        refine ⟨M, x1, d1, rfl, hx1.ex e01, fine.shortS f1, fun H2 e2 => ?_⟩
        walk_at "s"
        rename_i p3 H3 hp3 e3 h3
        exact fin r _ (inn _ (by rw [h2]; rfl)) _ _ _ _ ((e01.trans e2).trans e3) h3 ((e2.trans e3) _ _ h1) (hr2.ex ((e01.trans e2).trans e3))
      · have h2 := hm3 h
        walk_at "s"
        rename_i p2 H2 hp2 e2 h2'
        exact fin r _ (inn _ (by rw [h2]; rfl)) _ _ _ _ (e01.trans e2) h2' (e2 _ _ h1) (hr2.ex (e01.trans e2))
    have hw3 : ¬ w = "at" := of_decide_eq_false h
    walk_at "s"
    refine if_by (fun h => ?_) (fun h => ?_)
    · have hw4 := of_decide_eq_true h
      walk_at "s"
      refine r_slTfrom (k := 1) (e0 _ _ ha) (by decide) (by simp) fun p1 H1 e1 h1 => ?_
      have e01 := e0.trans e1
      walk_at "s"
      rename_i p3 H3 hp3 e3 h3
      have inn : ∀ b, r.isEmpty = b → innerD (.tuple (.str w :: d1 :: r)) = (d1 :: r, b) := fun b hb => by
        unfold innerD
        have n2 : ¬ ntm "not" = true := by decide +kernel
        have n1 : ¬ ("not" : Str) = "num" := by decide +kernel
        have n3 : ¬ ("not" : Str) = "at" := by decide +kernel
        rw [hw4]
        simp only [n1, n2, n3, if_true, if_false, Bool.false_eq_true]; rw [hb]
      exact fin (d1 :: r) _ (inn _ (hm2 rfl)) _ _ _ _ (e01.trans e3) h3 (e3 _ _ h1) (hr1.ex (e01.trans e3))
    have hw4 : ¬ w = "not" := of_decide_eq_false h
    walk_at "s"
    refine r_slTfrom (k := 1) (e0 _ _ ha) (by decide) (by simp) fun p1 H1 e1 h1 => ?_
    have e01 := e0.trans e1
    walk_at "s"
    refine r_in (.inr (gp _)) rfl (by decide +kernel) ?_
    walk_at "s"
    have inn : ∀ b, (inP w && decide (r.length = 1)) = b → innerD (.tuple (.str w :: d1 :: r)) = (d1 :: r, b) := fun b hb => by
      unfold innerD
      simp only [hw1, hw2, hw3, hw4, if_false, Bool.false_eq_true]; rw [hb]
    refine if_by (fun h => ?_) (fun h => ?_)
    · walk_at "s"
      rename_i p3 H3 hp3 e3 h3
      have h' : inP w = true := h
      exact fin (d1 :: r) _ (inn _ (by rw [h', Bool.true_and]; exact hm3 rfl)) _ _ _ _ (e01.trans e3) h3 (e3 _ _ h1) (hr1.ex (e01.trans e3))
    · walk_at "s"
      rename_i p3 H3 hp3 e3 h3
      have h' : inP w = false := h
      exact fin (d1 :: r) _ (inn _ (by rw [h', Bool.false_and])) _ _ _ _ (e01.trans e3) h3 (e3 _ _ h1) (hr1.ex (e01.trans e3))
abbrev s_isexp : Stmt := topS 29
theorem sc_isexp : FnScope ["value", "waiting", "parts", "inner", "right"] ["value"] (defScope s_isexp) := ⟨rfl, rfl, rfl, by decide +kernel, rfl, by decide +kernel, by decide +kernel⟩
theorem C_isexp (F : Fn K mg "is_expression" s_isexp ["value"]) (Z : Bz mg) (g_MOST_PARTS : ∃ u, mg "MOST_PARTS" = some u ∧ RelV (.int 60) u) (CIn : Cal P w K mg base 2 "inner_of_expression" spInner) : CalK P w K mg base 3 "is_expression" ["value"] spIsExp := by
  have S := sc_isexp
  refine F.calK S (fun vs H Q E h => ?_) (fun f cdv A' outer s H vs Q E hr h => ?_)
  · obtain ⟨M, v, d, rfl, _⟩ := h; rfl
  · obtain ⟨M, v, d, rfl, hv, hf, q⟩ := h
    refine ⟨_, (pss_cons (ps_par (i := 1) (j := 2) rfl S.nd rfl rfl (by decide) rfl rfl (pa_cons (pe_lst (pa_cons (pv 0) pa_nil)) (pa_cons pe_int pa_nil)) (by rfl))
      (pss_cons (ps_while PassesOwn.never (pt_cmpR (op_neD hr.units) (pv 1) (pe_lst pa_nil) (nomark _)) (pss_cons (ps_asg (pe_c0 CIn hr (by omega) (by rfl) (pa_cons (pe_bm0 PySem.F.plainAttrs_list PySem.F.slot_list_pop PySem.F.type_list_pop mt_pop (pv 1)) pa_nil)) (pg_tup rfl (pgs_cons (pg_name (i := 3) S.nd rfl (Or.inl rfl)) (pgs_cons (pg_name (i := 4) S.nd rfl (Or.inl rfl)) pgs_nil))))
      (pss_cons (ps_aug (i := 2) S.nd rfl (Or.inl rfl) pe_int ip_add)
      (pss_cons (ps_if (PW.pt (pw_or (pt_not (pt_val (pv 4))) (pw_or1 (pt_cmpR op_gt (pe_op op_add (pv 2) (pe_callB (cr_len) (by rfl) Z.len (by decide +kernel) (pa_cons (pv 3) pa_nil))) (pe_gc (by rfl) g_MOST_PARTS) (nomark _))))) (pss_one (ps_ret pe_bl)) pss_nil)
      (pss_one (ps_expr (pe_bm PySem.F.plainAttrs_list PySem.F.slot_list_extend PySem.F.type_list_extend mt_extend (pv 1) (pa_cons (pe_callTy (call_list_of) (by rfl) Z.list (by decide +kernel) (pa_cons (pv 3) pa_nil)) pa_nil))))))))
      (pss_one (ps_ret pe_bl)))), ?_⟩
    try dsimp only [cxOf, Cx.nox, Cx.wish]
    walk_at "s"
    rename_i W H1 hW e1 h1
    refine w_while (fun m σ' H' => ∃ (xs : List V) (ds : List PyData) (parts : Nat) (z3 z4 : Option V), σ' = [some v, some (.ref W), some (.int parts), z3, z4] ∧ H' W = some (.lst xs) ∧ Rel (W :: M) H' xs ds ∧ (∀ d ∈ ds, fine 63 d = true) ∧ ds.length ≤ 60 * parts + 1 ∧ parts ≤ 60 ∧ m + parts = 60 ∧ Ex H H' ∧ leftE ds parts = rightExp d) 60
      ⟨[v], [d], 0, none, none, rfl, h1, Rel.one ((hv.add hW).ex e1), (fun d' h => by rw [List.mem_singleton.mp h]; exact hf), by simp, by decide, rfl, e1, leftE_one d⟩ (fun m σ' H' hP => ?_)
    obtain ⟨xs, ds, parts, z3, z4, rfl, hx, hrel, hfi, hlen, hp60, hm, eH, hleft⟩ := hP
    walk_at "s"
    rename_i p2 H2 hp2 e2 h2
    refine r_neD (.lst (.of (e2 _ _ hx)) (dpAll_of hrel.1 fun i v d a b => ((hrel.2 i v d a b).ex e2).dp)) (.lst (.of h2) .nil) (shaped_lst hfi) (by rfl) ?_
    rw [eqv_nil]
    walk_at "s"
    refine k_wh (fun hb => ?_) fun hb => ?_
    · have hne : xs ≠ [] := by
        rintro rfl
        have h0 : ds = [] := List.length_eq_zero_iff.mp hrel.1.symm
        rw [h0] at hb; cases hb
      obtain ⟨ys, x, es, e, rfl, rfl, hxe, hye⟩ := hrel.last hne
      have fe := hfi e (by simp)
      walk_at "s"
      refine ⟨ty_list (e2 _ _ hx), r_pop (e2 _ _ hx) (y := x) (by simp) fun H3 k3 h3 => ?_⟩
      rw [List.dropLast_concat] at h3
      have kd3 : Kd (W :: M) H2 H3 := ⟨fun a xs h => k3 _ _ h (fun z => by rw [List.mem_singleton.mp z, e2 _ _ hx] at h; cases h), fun a xs h n => k3 _ _ h (fun z => n (by rw [List.mem_singleton.mp z]; exact List.mem_cons_self))⟩
      have eH3 : Ex H H3 := Ex.mut (eH.trans e2) hW fun a o n h => k3 _ _ h (by simpa using n)
      walk_at "s"
      refine ⟨W :: M, x, e, rfl, (hxe.ex e2).keep kd3, fine.mono fe (by decide), fun p4 q4 is H4 e4 h4 h4q hrel4 => ?_⟩
      have hye4 : Rel (W :: M) H4 ys es := ((hye.ex e2).keep kd3).ex e4
      have h34 := e4 _ _ h3
      refine w_gtup (.of h4) rfl ?_
      refine w_gcons (w_gname (w_gcons (w_gname (w_gnil ?_))))
      walk_at "s"
      have hil : (innerD e).1.length ≤ 90000 := by
        have := hrel4.1
        rcases hin : (innerD e).1 with _ | ⟨y, r⟩
        · simp
        · obtain ⟨dt, rfl, hm'⟩ := inner_sub (d := e) (e := y) (by rw [hin]; simp)
          have h9 := fine.len fe
          have := inner_len (ds := dt)
          rw [hin] at this
          omega
      refine if_by (fun hb2 => ?_) (fun hb2 => ?_)
      · have hw : (innerD e).2 = false := by simpa using hb2
        walk_at "s"
        have q' := q H4 (eH3.trans e4)
        rw [← hleft, leftE_wrong hw] at q'
        exact q'
      have hw : (innerD e).2 = true := by simpa using hb2
      walk_at "s"
      refine r_len (.inr (.of h4q)) rfl ?_
      walk_at "s"
      refine if_by (fun hb3 => ?_) (fun hb3 => ?_)
      · have hgt : parts + 1 + (innerD e).1.length > 60 := by
          have h' := of_decide_eq_true hb3
          have := hrel4.1
          omega
        walk_at "s"
        have q' := q H4 (eH3.trans e4)
        rw [← hleft, leftE_many hgt] at q'
        exact q'
      have hle : parts + 1 + (innerD e).1.length ≤ 60 := by
        have h' := of_decide_eq_false hb3
        have := hrel4.1
        omega
      walk_at "s"
      refine ⟨ty_list h34, ?_⟩
      walk_at "s"
      refine ⟨q4, is, rfl, .inr (.of h4q), fun l5 hl5 => ?_⟩
      have e5 := Ex.new (o := .lst is) hl5
      have h5 : upd H4 l5 (.lst is) l5 = _ := upd_same
      generalize upd H4 l5 (.lst is) = H5 at e5 h5 ⊢
      walk_at "s"
      have hlx := hye.1
      have hli := hrel4.1
      refine r_extend (e5 _ _ h34) h5 (by simp at hlen; omega) fun H6 k6 h6 => ?_
      have n5 : W ≠ l5 := fun z => by rw [← z, h34] at hl5; cases hl5
      have kd6 : Kd (W :: M) H5 H6 := ⟨fun a xs h => k6 _ _ h (fun z => by rw [List.mem_singleton.mp z, e5 _ _ h34] at h; cases h), fun a xs h n => k6 _ _ h (fun z => n (by rw [List.mem_singleton.mp z]; exact List.mem_cons_self))⟩
      have eH6 : Ex H H6 := Ex.mut ((eH3.trans e4).trans e5) hW fun a o n h => k6 _ _ h (by simpa using n)
      refine ⟨m - 1, by omega, ys ++ is, es ++ (innerD e).1, parts + 1, _, _, rfl, h6, Rel.append ((hye4.ex e5).keep kd6) ((hrel4.ex e5).keep kd6), fun d' hd' => ?_, ?_, by omega, by omega, eH6, ?_⟩
      · rcases List.mem_append.mp hd' with h | h
        · exact hfi d' (by simp [h])
        · exact inner_fine fe h
      · rw [List.length_append] at hlen ⊢
        simp at hlen
        omega
      · rw [← hleft, leftE_step hw]
    · have h0 : ds = [] := by
        rcases ds with _ | ⟨y, r⟩
        · rfl
        · cases hb
      walk_at "s"
      have q' := q _ (eH.trans e2)
      rw [← hleft, h0, leftE_nil hp60] at q'
      exact q'
abbrev s_isplace : Stmt := topS 30
theorem sc_isplace : FnScope ["value"] ["value"] (defScope s_isplace) := ⟨rfl, rfl, rfl, by decide +kernel, rfl, by decide +kernel, by decide +kernel⟩
theorem C_isplace (F : Fn K mg "is_place" s_isplace ["value"]) (Z : Bz mg) (CEx : CalK P w K mg base 3 "is_expression" ["value"] spIsExp) : CalK P w K mg base 4 "is_place" ["value"] spPlace := by
  have S := sc_isplace
  refine F.calK S (fun vs H Q E h => ?_) (fun f cdv A' outer s H vs Q E hr h => ?_)
  · obtain ⟨M, v, d, rfl, _⟩ := h; rfl
  · obtain ⟨M, v, d, rfl, hv, hf, q⟩ := h
    refine ⟨_, (pss_cons (ps_if (PW.pt (pw_or (pt_not (pt_val (pe_callB call_isi (by rfl) Z.isinstance (by decide +kernel) (pa_cons (pv 0) (pa_cons (pe_bltn (v := .ty "tuple") (by rfl) Z.tuple (by decide +kernel) rfl) pa_nil))))) (pw_or (pt_cmpR op_lt (pe_callB (cr_len) (by rfl) Z.len (by decide +kernel) (pa_cons (pv 0) pa_nil)) pe_int (nomark _)) (pw_or1 (pt_cmpR (op_notInD (hu_of hr)) (pe_ix ix_tup (pv 0) pe_int (fun _ _ => rfl)) (pe_tup (pa_cons pe_str (pa_cons pe_str pa_nil))) (by rfl)))))) (pss_one (ps_ret pe_bl)) pss_nil)
      (pss_one (ps_ret (pe_c0 CEx.cal hr (by omega) (by rfl) (pa_cons (pv 0) pa_nil))))), ?_⟩
    try dsimp only [cxOf, Cx.nox, Cx.wish]
    walk_at "s"
    refine r_isiTup hv ?_
    walk_at "s"
    have q0 := q H (fun _ _ h => h)
    refine if_by (fun h => ?_) (fun h => ?_)
    · have e : isTup d = false := by simpa using h
      walk_at "s"
      cases d <;> first | (simp [isTup] at e; done) | exact q0
    obtain ⟨ds, rfl⟩ : ∃ ds, d = .tuple ds := by cases d <;> simp [isTup] at h ⊢
    obtain ⟨a, xs, rfl, ha, hr'⟩ := Rel.of_tup hv
    walk_at "s"
    refine r_len (.inr (.of ha)) rfl ?_
    walk_at "s"
    refine if_by (fun h => ?_) (fun h => ?_)
    · have e : ds.length < 2 := by
        have h' : (xs.length : Int) < 2 := of_decide_eq_true h
        have := hr'.1
        omega
      walk_at "s"
      rcases ds with _ | ⟨x, _ | ⟨y, r⟩⟩
      · exact q0
      · exact q0
      · exact absurd e (by simp)
    have e2l : 2 ≤ ds.length := by
      have h' : ¬ (xs.length : Int) < 2 := of_decide_eq_false h
      have := hr'.1
      omega
    obtain ⟨d0, d1, r, rfl⟩ : ∃ x y r, ds = x :: y :: r := by
      rcases ds with _ | ⟨x, _ | ⟨y, r⟩⟩
      · exact absurd e2l (by simp)
      · exact absurd e2l (by simp)
      · exact ⟨_, _, _, rfl⟩
    obtain ⟨x0, xs', rfl, hx0, hr1⟩ := hr'.head
    have f0 : fine 62 d0 = true := fine.tup_in hf (by simp)
    walk_at "s"
    refine r_ixT (.of ha) (v := x0) (atI_nn (j := 0) rfl rfl) ?_
    walk_at "s"
    rename_i p1 H1 hp1 e1 h1
    refine r_notInD ["name", "at"] (.inr (.of h1)) rfl (hx0.ex e1) (fine.nice f0) (by decide +kernel) ?_
    walk_at "s"
    refine if_by (fun h => ?_) (fun h => ?_)
    · walk_at "s"
      have e : inD d0 ["name", "at"] = false := by simpa using h
      have q' := q H1 e1
      rw [show isPlaceD (.tuple (d0 :: d1 :: r)) = (inD d0 ["name", "at"] && rightExp (.tuple (d0 :: d1 :: r))) from rfl, e] at q'
      exact q'
    · walk_at "s"
      have e : inD d0 ["name", "at"] = true := by simpa using h
      refine ⟨M, _, _, rfl, hv.ex e1, hf, fun H2 e2 => ?_⟩
      have q' := q H2 (e1.trans e2)
      rw [show isPlaceD (.tuple (d0 :: d1 :: r)) = (inD d0 ["name", "at"] && rightExp (.tuple (d0 :: d1 :: r))) from rfl, e] at q'
      exact q'
end
end BkL
end
section
namespace BkL
open PySem PySem.Spec L2 BkG TL
local macro_rules | `(tactic| walk_at "w1") => `(tactic| first
  | with_reducible refine w_seq ?_ | with_reducible refine w_set ?_ | with_reducible refine w_ret ?_ | with_reducible refine w_drop ?_ | with_reducible refine w_ifS ?_
  | with_reducible refine w_next ?_ | with_reducible refine w_c ?_ | ((with_reducible refine' w_var ?hv ?_); (case hv => rfl)) | with_reducible refine w_op ?_ | with_reducible refine w_cons ?_ | with_reducible refine w_nil ?_
  | with_reducible refine w_cb ?_ | with_reducible refine w_call ?_ | with_reducible refine w_tup ?_ | with_reducible refine w_lst ?_ | with_reducible refine w_bm ?_ | with_reducible refine w_bm0 ?_ | with_reducible refine w_un ?_
  | with_reducible refine w_test ?_ | with_reducible refine w_B ?_ | with_reducible refine k_B ?_ | with_reducible refine w_and ?_ | with_reducible refine w_or ?_ | with_reducible refine w_not ?_ | with_reducible refine w_if ?_
  | with_reducible refine w_andV ?_ | with_reducible refine w_orV ?_ | with_reducible refine w_notV ?_ | with_reducible refine k_andV ?_ | with_reducible refine k_orV ?_ | with_reducible refine k_notV ?_
  | with_reducible refine w_chain ?_ | with_reducible refine ex_bl ?_ | with_reducible refine w_isN ?_ | with_reducible refine w_notN ?_ | with_reducible refine w_yes ?_
  | with_reducible refine r_I0 ?_ | with_reducible refine r_U ?_ | with_reducible refine r_eqI ?_ | with_reducible refine r_neI ?_ | with_reducible refine r_eqS ?_ | with_reducible refine r_neS ?_ | with_reducible refine r_eqB ?_ | with_reducible refine r_neB ?_
  | with_reducible refine r_abs ?_ | with_reducible refine r_int ?_ | with_reducible refine r_intB ?_
  | with_reducible refine w_sl ?_ | with_reducible refine w_nop ?_ | with_reducible refine w_part ?_ | with_reducible refine k_part ?_ | with_reducible refine w_revL ?_
  | with_reducible refine w_asg ?_ | with_reducible refine w_gname ?_ | with_reducible refine w_gsub ?_ | with_reducible refine w_gnil ?_ | with_reducible refine w_gcons ?_ | with_reducible refine w_retN ?_ | with_reducible refine w_brk ?_ | with_reducible refine w_cont ?_
  | with_reducible refine w_par ?_ | with_reducible refine w_par3 ?_ | with_reducible refine par_ok ?_ | with_reducible refine par_ok3 ?_ | ((with_reducible refine' w_aug ?hv ?_); (case hv => rfl)) | with_reducible refine i_I ?_
  | with_reducible refine w_forL ?_ | with_reducible refine w_forT ?_ | with_reducible refine w_forR1 ?_ | with_reducible refine w_forE ?_ | with_reducible refine w_lcL ?_ | with_reducible refine w_lcT ?_ | with_reducible refine w_lcR ?_
  | ((with_reducible refine a_tup ?hz ?_); (case hz => exact Nat.le_of_ble_eq_true rfl); intro _ _ _ _ _) | ((with_reducible refine a_lst ?hz ?_); (case hz => exact Nat.le_of_ble_eq_true rfl); intro _ _ _ _ _)
  | ((with_reducible refine k_turn1 ?hw ?_); (case hw => rfl)) | ((with_reducible refine k_turn ?hw ?_); (case hw => rfl)) | with_reducible refine r_isV ?_ | with_reducible refine r_isNotV ?_ | with_reducible refine r_isN ?_ | with_reducible refine r_notN ?_ | with_reducible refine w_lcZ ?_
  | ((with_reducible refine r_I ?hc ?_); (case hc => first | decide | assumption))
  | with_reducible refine w_forET ?_
  | ((with_reducible refine w_dnewK ?_); intro _ _ _ _ _) | with_reducible refine w_dput ?_ | with_reducible refine w_lstRg ?_ | with_reducible refine w_lstZip ?_ | with_reducible refine w_callK ?_
  | (with_reducible refine if_pos' ?_) | (with_reducible refine if_neg' ?_))
local macro_rules | `(tactic| walk_at "w") => `(tactic| repeat (walk_at "w1"))

local macro_rules | `(tactic| walk_at "s") => `(tactic| repeat (first | walk_at "w1" | with_reducible refine w_lcS ?_ | with_reducible refine w_m1 ?_ | with_reducible refine w_m0 ?_ | with_reducible refine k_m1 ?_ | with_reducible refine k_m0 ?_ | with_reducible refine k_lcS ?_ | refine r_catS (by decide +kernel) ?_))
theorem name_part {M : List Addr} {H : Hp} (s : Str) : Dv M H (.str s) (.str s) := .str s
def changesV : List V := [.str "plus", .str "minus", .str "mix"]
def movesV : List V := [.str "push", .str "pop", .str "send", .str "take"]
section
variable {P : Program} {w : World} {K : PySem.W.Frag} {mg : Str → Option Value} {base : Heap}
abbrev s_arenames : Stmt := topS 31
theorem sc_arenames : FnScope ["value", "most", "one"] ["value", "most"] (defScope s_arenames) := ⟨rfl, rfl, rfl, by decide +kernel, rfl, by decide +kernel, by decide +kernel⟩
theorem C_arenames (F : Fn K mg "are_names" s_arenames ["value", "most"]) (Z : Bz mg) (CN : CalK P w K mg base 1 "is_name" ["value"] spNameX) : Cal P w K mg base 2 "are_names" spNames := by
  have S := sc_arenames
  refine F.cal S (fun vs H Q E h => ?_) (fun f cdv A' outer s H vs Q E hr h => ?_)
  · obtain ⟨M, v, d, most, rfl, _⟩ := h; rfl
  · obtain ⟨M, v, d, most, rfl, hm, hv, hf, q⟩ := h
    refine ⟨_, (pss_one (ps_ret (pe_and (pe_callB call_isi (by rfl) Z.isinstance (by decide +kernel) (pa_cons (pv 0) (pa_cons (pe_bltn (v := .ty "tuple") (by rfl) Z.tuple (by decide +kernel) rfl) pa_nil))) (pe_and (pe_cmpR op_le (pe_callB (cr_len) (by rfl) Z.len (by decide +kernel) (pa_cons (pv 0) pa_nil)) (pv 1) (nomark _)) (pe_one (pe_callB (cr_all rfl) (by rfl) Z.all (by decide +kernel) (pa_cons (pe_lc (own := [("one", 2)]) (g := (gName 2)) (tt := tYes) rfl S.nd (pi_tup (pv 0)) (blkOk_by (N := ["value", "most", "one"]) (sc := defScope s_arenames) (by decide +kernel)) (fun _ _ _ _ _ => (pg_name (i := 2) S.nd rfl (Or.inl rfl))) (fun _ _ _ _ _ => pts_nil) (fun _ _ _ _ _ => (pe_c0 CN.cal hr (by omega) (by rfl) (pa_cons (pv 2) pa_nil)))) pa_nil))))))), ?_⟩
    try dsimp only [cxOf, Cx.nox, Cx.wish]
    walk_at "w"
    refine r_isiTup hv ?_
    walk_at "w"
    refine if_by (fun h => ?_) (fun h => ?_)
    · obtain ⟨ds, rfl⟩ : ∃ ds, d = .tuple ds := by cases d <;> simp [isTup] at h ⊢
      obtain ⟨a, xs, rfl, ha, hl, ht⟩ := hv.tup_inv
      walk_at "w"
      refine r_len (.inr (.of ha)) rfl ?_
      walk_at "w"
      refine if_by (fun h => ?_) (fun h => ?_)
      · have hn : ds.length ≤ most := by have h' := of_decide_eq_true h; omega
        walk_at "w"
        refine k_lcT (.of ha) (lcT (xs := xs) (fun i acc D H' => Ex H H' ∧ acc = ((ds.take i).map isNameD).map V.bl) (fun D H2 _ e _ => ⟨e, rfl⟩) (fun i acc D H' _ p => .of (p.1 _ _ ha)) (fun i x acc D H' hx hlt hD hacc p => ?_) (fun acc D H' _ hD hacc p => ?_))
        · obtain ⟨e, rfl⟩ := p
          obtain ⟨y, hy⟩ := get_of_len hl hx
          have hi : i < ds.length := (List.getElem?_eq_some_iff.mp hy).1
          walk_at "w"
          refine ⟨M, x, y, rfl, (ht i x y hx hy).ex e, fine.shortS (n := 62) (fine.tup_in hf (List.mem_of_getElem? hy)), fun H3 e3 => ?_⟩
          refine k_lc (e3 _ _ hacc) hlt (by omega) fun H5 h5 k5 => ⟨Ex.mut (e.trans e3) hD k5, ?_⟩
          rw [take_map_more hy, List.map_append]; rfl
        · obtain ⟨e, rfl⟩ := p
          rw [hl, List.take_length] at hacc
          refine r_all hacc ?_
          have q' := q H' e
          rw [show areNamesD most (.tuple ds) = (ds.map isNameD).all id by simp [areNamesD, hn, List.all_map]] at q'
          exact q'
      · have e : areNamesD most (.tuple ds) = false := by
          have h' : ¬ ((xs.length : Int) ≤ most) := of_decide_eq_false (by simpa using h)
          have hn : ¬ ds.length ≤ most := by omega
          simp [areNamesD, hn]
        have q' := q H (fun _ _ h => h)
        rw [e] at q'; exact q'
    · have e : areNamesD most d = false := by cases d <;> simp [isTup, areNamesD] at h ⊢
      have q' := q H (fun _ _ h => h)
      rw [e] at q'; exact q'
abbrev s_iscalled : Stmt := topS 32
theorem sc_iscalled : FnScope ["value", "parts", "one"] ["value"] (defScope s_iscalled) := ⟨rfl, rfl, rfl, by decide +kernel, rfl, by decide +kernel, by decide +kernel⟩
theorem C_iscalled (F : Fn K mg "is_called" s_iscalled ["value"]) (Z : Bz mg) (CN : CalK P w K mg base 1 "is_name" ["value"] spNameX) : Cal P w K mg base 2 "is_called" spCalled := by
  have S := sc_iscalled
  refine F.cal S (fun vs H Q E h => ?_) (fun f cdv A' outer s H vs Q E hr h => ?_)
  · obtain ⟨M, v, d, rfl, _⟩ := h; rfl
  · obtain ⟨M, v, d, rfl, hv, hf, q⟩ := h
    refine ⟨_, (pss_cons (ps_if (pt_not (pt_val (pe_callB call_isi (by rfl) Z.isinstance (by decide +kernel) (pa_cons (pv 0) (pa_cons (pe_bltn (v := .ty "str") (by rfl) Z.str (by decide +kernel) rfl) pa_nil))))) (pss_one (ps_ret pe_bl)) pss_nil)
      (pss_cons (ps_set (i := 1) S.nd rfl (Or.inl rfl) (pe_split (pv 0) pe_str))
      (pss_one (ps_ret (pe_and (pe_cmpR op_in_seq (pe_callB (cr_len) (by rfl) Z.len (by decide +kernel) (pa_cons (pv 1) pa_nil)) (pe_tup (pa_cons pe_int (pa_cons pe_int pa_nil))) (by rfl)) (pe_one (pe_callB (cr_all rfl) (by rfl) Z.all (by decide +kernel) (pa_cons (pe_lc (own := [("one", 2)]) (g := (gName 2)) (tt := tYes) rfl S.nd (pi_list (pv 1)) (blkOk_by (N := ["value", "parts", "one"]) (sc := defScope s_iscalled) (by decide +kernel)) (fun _ _ _ _ _ => (pg_name (i := 2) S.nd rfl (Or.inl rfl))) (fun _ _ _ _ _ => pts_nil) (fun _ _ _ _ _ => (pe_c0 CN.cal hr (by omega) (by rfl) (pa_cons (pv 2) pa_nil)))) pa_nil)))))))), ?_⟩
    try dsimp only [cxOf, Cx.nox, Cx.wish]
    walk_at "s"
    refine r_isiStr hv ?_
    walk_at "s"
    refine if_by (fun h => ?_) (fun h => ?_)
    · have e : isStr d = false := by simpa using h
      walk_at "s"
      have q' := q H (fun _ _ h => h)
      cases d <;> first | (simp [isStr] at e; done) | exact q'
    obtain ⟨z, rfl⟩ : ∃ z, d = .str z := by cases d <;> simp [isStr] at h ⊢
    cases hv
    have hz := fine.shortS hf z rfl
    walk_at "s"
    refine ⟨_, _, rfl, rfl, by decide +kernel, sz_of (by omega), r_newStrs fun p1 H1 hp1 e1 h1 => ?_⟩
    change H1 p1 = some (.lst ((Txt.split z ptS).map V.str)) at h1
    have hcnt := split_count z
    have hne := split_ne z
    have hlen : ∀ p ∈ Txt.split z ptS, p.length ≤ 1000 := fun p hp => Nat.le_trans (split_len hp) hz
    have hq : ∀ H', Ex H H' → Q (.bl (decide ((Txt.split z ptS).length < 3) && (Txt.split z ptS).all nameS)) H' := q
    generalize Txt.split z ptS = ps at *
    walk_at "s"
    refine r_len (.inl (.of h1)) rfl ?_
    walk_at "s"
    rename_i p2 H2 hp2 e2 h2
    refine r_in (.inr (.of h2)) rfl (by rfl) ?_
    have hin : inV (.int (((ps.map V.str).length : Nat) : Int)) [.int 1, .int 2] = decide (ps.length < 3) := by
      rw [List.length_map]
      have : ps.length ≠ 0 := fun z => hne (List.length_eq_zero_iff.mp z)
      by_cases h1' : ps.length = 1
      · rw [h1']; rfl
      · by_cases h2' : ps.length = 2
        · rw [h2']; rfl
        · have h3 : ¬ ps.length < 3 := by omega
          rw [decide_eq_false h3]
          have a1 : ¬ (1 : Int) = (ps.length : Int) := by omega
          have a2 : ¬ (2 : Int) = (ps.length : Int) := by omega
          show ((((1 : Int) == (ps.length : Int))) || ((((2 : Int) == (ps.length : Int))) || false)) = false
          rw [beq_eq_false_iff_ne.mpr a1, beq_eq_false_iff_ne.mpr a2]; rfl
    rw [hin]
    have e12 := e1.trans e2
    walk_at "s"
    refine if_by (fun h => ?_) (fun h => ?_)
    · walk_at "s"
      have h12 := e2 _ _ h1
      refine k_lcL (.of h12) (lcL (xs := ps.map V.str) (fun i acc D H' => Ex H2 H' ∧ acc = ((ps.take i).map nameS).map V.bl) (fun D H2 _ e _ => ⟨e, rfl⟩) (fun i acc D H' _ p => .of (p.1 _ _ h12)) (fun i x acc D H' hx hlt hD hacc p => ?_) (fun acc D H' _ hD hacc p => ?_))
      · obtain ⟨e, rfl⟩ := p
        obtain ⟨y, hy, rfl⟩ := map_some hx
        have hi : i < ps.length := (List.getElem?_eq_some_iff.mp hy).1
        walk_at "s"
        refine ⟨[], _, .str y, rfl, .str y, (fun s e => by cases e; exact hlen y (List.mem_of_getElem? hy)), fun H3 e3 => ?_⟩
        refine k_lc (e3 _ _ hacc) hlt (by omega) fun H5 h5 k5 => ⟨Ex.mut (e.trans e3) hD k5, ?_⟩
        rw [take_map_more hy, List.map_append]; rfl
      · obtain ⟨e, rfl⟩ := p
        rw [List.length_map, List.take_length] at hacc
        refine r_all hacc ?_
        have q' := hq H' (e12.trans e)
        rw [h, Bool.true_and] at q'
        rw [List.all_map]
        exact q'
    · have q' := hq H2 e12
      rw [h] at q'
      exact q'
abbrev s_rplain : Stmt := topS 33
theorem sc_rplain : FnScope ["value", "word", "many"] ["value"] (defScope s_rplain) := ⟨rfl, rfl, rfl, by decide +kernel, rfl, by decide +kernel, by decide +kernel⟩
theorem C_rplain (F : Fn K mg "is_right_plain" s_rplain ["value"]) (Z : Bz mg) (gT_CHANGES : ∃ pa, (∃ u, mg "CHANGES" = some u ∧ RelV (.ref pa) u) ∧ ∀ H, SqT K H pa changesV) (gT_MOVES : ∃ pa, (∃ u, mg "MOVES" = some u ∧ RelV (.ref pa) u) ∧ ∀ H, SqT K H pa movesV)
    (C1 : Cal P w K mg base 1 "is_integer" spIntg) (CN : CalK P w K mg base 1 "is_name" ["value"] spNameX) (CEx : CalK P w K mg base 3 "is_expression" ["value"] spIsExp) (CPl : CalK P w K mg base 4 "is_place" ["value"] spPlace) : Cal P w K mg base 5 "is_right_plain" spPlain := by
  have S := sc_rplain
  obtain ⟨pc, g_CHANGES, gpc⟩ := gT_CHANGES
  obtain ⟨pm, g_MOVES, gpm⟩ := gT_MOVES
  refine F.cal S (fun vs H Q E h => ?_) (fun f cdv A' outer s H vs Q E hr h => ?_)
  · obtain ⟨M, v, w, as, rfl, _⟩ := h; rfl
  · obtain ⟨M, v, w, as, rfl, hv, hf, q⟩ := h
    refine ⟨_, (pss_cons (ps_par (i := 1) (j := 2) rfl S.nd rfl rfl (by decide) rfl rfl (pa_cons (pe_ix ix_tup (pv 0) pe_int (fun _ _ => rfl)) (pa_cons (pe_callB (cr_len) (by rfl) Z.len (by decide +kernel) (pa_cons (pv 0) pa_nil)) pa_nil)) (by rfl))
      (pss_cons (ps_if (pt_cmpR op_eq (pv 1) pe_str (nomark _)) (pss_one (ps_ret (pe_cmpR op_eq (pv 2) pe_int (nomark _)))) pss_nil)
      (pss_cons (ps_if (pt_cmpR op_in_seq (pv 1) (pe_gc (by rfl) g_CHANGES) (by rfl)) (pss_one (ps_ret (pe_and (pe_cmpR op_eq (pv 2) pe_int (nomark _)) (pe_and (pe_c0 CPl.cal hr (by omega) (by rfl) (pa_cons (pe_ix ix_tup (pv 0) pe_int (fun _ _ => rfl)) pa_nil)) (pe_one (pe_c0 CEx.cal hr (by omega) (by rfl) (pa_cons (pe_ix ix_tup (pv 0) pe_int (fun _ _ => rfl)) pa_nil))))))) pss_nil)
      (pss_cons (ps_if (pt_cmpR op_in_seq (pv 1) (pe_tup (pa_cons pe_str (pa_cons pe_str pa_nil))) (by rfl)) (pss_one (ps_ret (pe_and (pe_cmpR op_eq (pv 2) pe_int (nomark _)) (pe_and (pe_c0 CPl.cal hr (by omega) (by rfl) (pa_cons (pe_ix ix_tup (pv 0) pe_int (fun _ _ => rfl)) pa_nil)) (pe_one (pe_c0 C1 hr (by omega) (by rfl) (pa_cons (pe_ix ix_tup (pv 0) pe_int (fun _ _ => rfl)) pa_nil))))))) pss_nil)
      (pss_cons (ps_if (pt_cmpR op_eq (pv 1) pe_str (nomark _)) (pss_one (ps_ret (pe_and (pe_cmpR op_eq (pv 2) pe_int (nomark _)) (pe_and (pe_c0 CPl.cal hr (by omega) (by rfl) (pa_cons (pe_ix ix_tup (pv 0) pe_int (fun _ _ => rfl)) pa_nil)) (pe_one (pe_c0 CPl.cal hr (by omega) (by rfl) (pa_cons (pe_ix ix_tup (pv 0) pe_int (fun _ _ => rfl)) pa_nil))))))) pss_nil)
      (pss_one (ps_ret (pe_and (pe_cmpR op_in_seq (pv 1) (pe_gc (by rfl) g_MOVES) (by rfl)) (pe_and (pe_cmpR op_eq (pv 2) pe_int (nomark _)) (pe_and (pe_c0 CN.cal hr (by omega) (by rfl) (pa_cons (pe_ix ix_tup (pv 0) pe_int (fun _ _ => rfl)) pa_nil)) (pe_one (pe_c0 CN.cal hr (by omega) (by rfl) (pa_cons (pe_ix ix_tup (pv 0) pe_int (fun _ _ => rfl)) pa_nil))))))))))))), ?_⟩
    try dsimp only [cxOf, Cx.nox, Cx.wish]
    obtain ⟨a, xs, rfl, ha, hr'⟩ := Rel.of_tup hv
    obtain ⟨x0, xr, rfl, hx0, hr1⟩ := hr'.head
    cases hx0
    walk_at "s"
    refine r_ixT (.of ha) (v := .str w) (atI_nn (j := 0) rfl rfl) ?_
    walk_at "s"
    refine r_len (.inr (.of ha)) rfl ?_
    walk_at "s"
    have rf : Ex H H := fun _ _ h => h
    have hm3 : decide ((((V.str w :: xr).length : Nat) : Int) = 3) = true → as.length = 2 := fun h => by
      have h' : (((V.str w :: xr).length : Nat) : Int) = 3 := of_decide_eq_true h
      have := hr1.1
      rw [List.length_cons] at h'
      omega
    have hm3' : decide ((((V.str w :: xr).length : Nat) : Int) = 3) = false → ¬ as.length = 2 := fun h z => by
      have h' : ¬ (((V.str w :: xr).length : Nat) : Int) = 3 := of_decide_eq_false h
      have := hr1.1
      rw [List.length_cons] at h'
      omega
    refine if_by (fun h => ?_) (fun h => ?_)
    · have hw := of_decide_eq_true h
      walk_at "s"
      have q' := q H rf
      have hpl : plainR w as = decide ((((V.str w :: xr).length : Nat) : Int) = 1) := by
        unfold plainR
        rw [if_pos hw]
        have := hr1.1
        rcases as with _ | ⟨b, as⟩
        · rw [List.length_cons, this]; rfl
        · rw [List.length_cons, this, List.length_cons]
          exact (decide_eq_false (by omega)).symm
      rw [hpl] at q'
      exact q'
    have n1 : ¬ w = "skip" := of_decide_eq_false h
    walk_at "s"
    refine r_in (.inr (gpc _)) rfl (by rfl) ?_
    walk_at "s"
    refine if_by (fun hc => ?_) (fun hc => ?_)
    walk_at "s"
    have n2 : wIn w ["plus", "minus", "mix"] = true := hc
    refine if_by (fun h => ?_) (fun h => ?_)
    · have h2 : as.length = 2 := hm3 h
      obtain ⟨b, c, rfl⟩ : ∃ b c, as = [b, c] := by
        rcases as with _ | ⟨b, _ | ⟨c, _ | ⟨d, as⟩⟩⟩
        · exact absurd h2 (by simp)
        · exact absurd h2 (by simp)
        · exact ⟨_, _, rfl⟩
        · exact absurd h2 (by simp)
      obtain ⟨x1, xr', rfl, hx1, hr2⟩ := hr1.head
      obtain ⟨x2, xr'', rfl, hx2, hr3⟩ := hr2.head
      obtain rfl := hr3.none
      have f1 : fine 62 b = true := fine.tup_in hf (by simp)
      have f2 : fine 62 c = true := fine.tup_in hf (by simp)
      have hpl : plainR w [b, c] = (isPlaceD b && rightExp c) := by unfold plainR; rw [if_neg n1, if_pos n2]
      walk_at "s"
      refine r_ixT (.of (rf _ _ ha)) (v := x1) (atI_nn (j := 1) rfl rfl) ?_
      walk_at "s"
      refine ⟨M, x1, b, rfl, hx1.ex rf, fine.mono f1 (by decide), fun H7 e7 => ?_⟩
      walk_at "s"
      refine if_by (fun h => ?_) (fun h => ?_)
      · walk_at "s"
        refine r_ixT (.of ((Same.trans rf e7) _ _ ha)) (v := x2) (atI_nn (j := 2) rfl rfl) ?_
        walk_at "s"
        refine ⟨M, x2, c, rfl, hx2.ex (Same.trans rf e7), fine.mono f2 (by decide), fun H8 e8 => ?_⟩
        have q' := q _ ((Same.trans rf e7).trans e8)
        rw [hpl, h, Bool.true_and] at q'
        exact q'
      · have q' := q _ (Same.trans rf e7)
        rw [hpl, h, Bool.false_and] at q'
        exact q'
    · have h2 : ¬ as.length = 2 := hm3' h
      have hpl : plainR w as = false := by
        clear hf q hv hr1 hr' hm3 hm3'
        rcases as with _ | ⟨b, _ | ⟨c, _ | ⟨d, as⟩⟩⟩ <;> first | exact absurd rfl h2 | (unfold plainR; rw [if_neg n1, if_pos n2])
      walk_at "s"
      have q' := q _ rf
      rw [hpl] at q'
      exact q'
    have n2 : ¬ wIn w ["plus", "minus", "mix"] = true := fun z => by
      have h' : wIn w ["plus", "minus", "mix"] = false := hc
      rw [h'] at z; cases z
    walk_at "s"
    rename_i p1 H1 hp1 e1 h1
    refine r_in (.inr (.of h1)) rfl (by rfl) ?_
    walk_at "s"
    refine if_by (fun hc2 => ?_) (fun hc2 => ?_)
    walk_at "s"
    have n3 : wIn w ["times", "turn"] = true := hc2
    refine if_by (fun h => ?_) (fun h => ?_)
    · have h2 : as.length = 2 := hm3 h
      obtain ⟨b, c, rfl⟩ : ∃ b c, as = [b, c] := by
        rcases as with _ | ⟨b, _ | ⟨c, _ | ⟨d, as⟩⟩⟩
        · exact absurd h2 (by simp)
        · exact absurd h2 (by simp)
        · exact ⟨_, _, rfl⟩
        · exact absurd h2 (by simp)
      obtain ⟨x1, xr', rfl, hx1, hr2⟩ := hr1.head
      obtain ⟨x2, xr'', rfl, hx2, hr3⟩ := hr2.head
      obtain rfl := hr3.none
      have f1 : fine 62 b = true := fine.tup_in hf (by simp)
      have f2 : fine 62 c = true := fine.tup_in hf (by simp)
      have hpl : plainR w [b, c] = (isPlaceD b && isIntg c) := by unfold plainR; rw [if_neg n1, if_neg n2, if_pos n3]
      walk_at "s"
      refine r_ixT (.of (e1 _ _ ha)) (v := x1) (atI_nn (j := 1) rfl rfl) ?_
      walk_at "s"
      refine ⟨M, x1, b, rfl, hx1.ex e1, fine.mono f1 (by decide), fun H7 e7 => ?_⟩
      walk_at "s"
      refine if_by (fun h => ?_) (fun h => ?_)
      · walk_at "s"
        refine r_ixT (.of ((Same.trans e1 e7) _ _ ha)) (v := x2) (atI_nn (j := 2) rfl rfl) ?_
        walk_at "s"
        refine ⟨M, x2, c, rfl, hx2.ex (Same.trans e1 e7), ?_⟩
        have q' := q _ (Same.trans e1 e7)
        rw [hpl, h, Bool.true_and] at q'
        exact q'
      · have q' := q _ (Same.trans e1 e7)
        rw [hpl, h, Bool.false_and] at q'
        exact q'
    · have h2 : ¬ as.length = 2 := hm3' h
      have hpl : plainR w as = false := by
        clear hf q hv hr1 hr' hm3 hm3'
        rcases as with _ | ⟨b, _ | ⟨c, _ | ⟨d, as⟩⟩⟩ <;> first | exact absurd rfl h2 | (unfold plainR; rw [if_neg n1, if_neg n2, if_pos n3])
      walk_at "s"
      have q' := q _ e1
      rw [hpl] at q'
      exact q'
    have n3 : ¬ wIn w ["times", "turn"] = true := fun z => by
      have h' : wIn w ["times", "turn"] = false := hc2
      rw [h'] at z; cases z
    walk_at "s"
    refine if_by (fun hc3 => ?_) (fun hc3 => ?_)
    walk_at "s"
    have n4 := of_decide_eq_true hc3
    refine if_by (fun h => ?_) (fun h => ?_)
    · have h2 : as.length = 2 := hm3 h
      obtain ⟨b, c, rfl⟩ : ∃ b c, as = [b, c] := by
        rcases as with _ | ⟨b, _ | ⟨c, _ | ⟨d, as⟩⟩⟩
        · exact absurd h2 (by simp)
        · exact absurd h2 (by simp)
        · exact ⟨_, _, rfl⟩
        · exact absurd h2 (by simp)
      obtain ⟨x1, xr', rfl, hx1, hr2⟩ := hr1.head
      obtain ⟨x2, xr'', rfl, hx2, hr3⟩ := hr2.head
      obtain rfl := hr3.none
      have f1 : fine 62 b = true := fine.tup_in hf (by simp)
      have f2 : fine 62 c = true := fine.tup_in hf (by simp)
      have hpl : plainR w [b, c] = (isPlaceD b && isPlaceD c) := by unfold plainR; rw [if_neg n1, if_neg n2, if_neg n3, if_pos n4]
      walk_at "s"
      refine r_ixT (.of (e1 _ _ ha)) (v := x1) (atI_nn (j := 1) rfl rfl) ?_
      walk_at "s"
      refine ⟨M, x1, b, rfl, hx1.ex e1, fine.mono f1 (by decide), fun H7 e7 => ?_⟩
      walk_at "s"
      refine if_by (fun h => ?_) (fun h => ?_)
      · walk_at "s"
        refine r_ixT (.of ((Same.trans e1 e7) _ _ ha)) (v := x2) (atI_nn (j := 2) rfl rfl) ?_
        walk_at "s"
        refine ⟨M, x2, c, rfl, hx2.ex (Same.trans e1 e7), fine.mono f2 (by decide), fun H8 e8 => ?_⟩
        have q' := q _ ((Same.trans e1 e7).trans e8)
        rw [hpl, h, Bool.true_and] at q'
        exact q'
      · have q' := q _ (Same.trans e1 e7)
        rw [hpl, h, Bool.false_and] at q'
        exact q'
    · have h2 : ¬ as.length = 2 := hm3' h
      have hpl : plainR w as = false := by
        clear hf q hv hr1 hr' hm3 hm3'
        rcases as with _ | ⟨b, _ | ⟨c, _ | ⟨d, as⟩⟩⟩ <;> first | exact absurd rfl h2 | (unfold plainR; rw [if_neg n1, if_neg n2, if_neg n3, if_pos n4])
      walk_at "s"
      have q' := q _ e1
      rw [hpl] at q'
      exact q'
    have n4 : ¬ w = "swap" := of_decide_eq_false hc3
    walk_at "s"
    refine r_in (.inr (gpm _)) rfl (by rfl) ?_
    walk_at "s"
    have base : ∀ as, plainR w as = (wIn w ["push", "pop", "send", "take"] && (match as with | [a, b] => isNameD a && isNameD b | _ => false)) := fun as => by unfold plainR; rw [if_neg n1, if_neg n2, if_neg n3, if_neg n4] <;> rfl
    refine if_by (fun hc4 => ?_) (fun hc4 => ?_)
    walk_at "s"
    have n5 : wIn w ["push", "pop", "send", "take"] = true := hc4
    refine if_by (fun h => ?_) (fun h => ?_)
    · have h2 : as.length = 2 := hm3 h
      obtain ⟨b, c, rfl⟩ : ∃ b c, as = [b, c] := by
        rcases as with _ | ⟨b, _ | ⟨c, _ | ⟨d, as⟩⟩⟩
        · exact absurd h2 (by simp)
        · exact absurd h2 (by simp)
        · exact ⟨_, _, rfl⟩
        · exact absurd h2 (by simp)
      obtain ⟨x1, xr', rfl, hx1, hr2⟩ := hr1.head
      obtain ⟨x2, xr'', rfl, hx2, hr3⟩ := hr2.head
      obtain rfl := hr3.none
      have f1 : fine 62 b = true := fine.tup_in hf (by simp)
      have f2 : fine 62 c = true := fine.tup_in hf (by simp)
      have hpl : plainR w [b, c] = (isNameD b && isNameD c) := by rw [base, n5, Bool.true_and]
      walk_at "s"
      refine r_ixT (.of (e1 _ _ ha)) (v := x1) (atI_nn (j := 1) rfl rfl) ?_
      walk_at "s"
      refine ⟨M, x1, b, rfl, hx1.ex e1, fine.shortS f1, fun H7 e7 => ?_⟩
      walk_at "s"
      refine if_by (fun h => ?_) (fun h => ?_)
      · walk_at "s"
        refine r_ixT (.of ((Same.trans e1 e7) _ _ ha)) (v := x2) (atI_nn (j := 2) rfl rfl) ?_
        walk_at "s"
        refine ⟨M, x2, c, rfl, hx2.ex (Same.trans e1 e7), fine.shortS f2, fun H8 e8 => ?_⟩
        have q' := q _ ((Same.trans e1 e7).trans e8)
        rw [hpl, h, Bool.true_and] at q'
        exact q'
      · have q' := q _ (Same.trans e1 e7)
        rw [hpl, h, Bool.false_and] at q'
        exact q'
    · have h2 : ¬ as.length = 2 := hm3' h
      have hpl : plainR w as = false := by
        clear hf q hv hr1 hr' hm3 hm3'
        rcases as with _ | ⟨b, _ | ⟨c, _ | ⟨d, as⟩⟩⟩ <;> first | exact absurd rfl h2 | (rw [base, n5, Bool.true_and])
      walk_at "s"
      have q' := q _ e1
      rw [hpl] at q'
      exact q'
    have n5 : wIn w ["push", "pop", "send", "take"] = false := hc4
    have q' := q _ e1
    rw [base, n5, Bool.false_and] at q'
    exact q'
end
end BkL
end
section
namespace BkL
open PySem PySem.Spec L2 BkG TL
local macro_rules | `(tactic| walk_at "w1") => `(tactic| first
  | with_reducible refine w_seq ?_ | with_reducible refine w_set ?_ | with_reducible refine w_ret ?_ | with_reducible refine w_drop ?_ | with_reducible refine w_ifS ?_
  | with_reducible refine w_next ?_ | with_reducible refine w_c ?_ | ((with_reducible refine' w_var ?hv ?_); (case hv => rfl)) | with_reducible refine w_op ?_ | with_reducible refine w_cons ?_ | with_reducible refine w_nil ?_
  | with_reducible refine w_cb ?_ | with_reducible refine w_call ?_ | with_reducible refine w_tup ?_ | with_reducible refine w_lst ?_ | with_reducible refine w_bm ?_ | with_reducible refine w_bm0 ?_ | with_reducible refine w_un ?_
  | with_reducible refine w_test ?_ | with_reducible refine w_B ?_ | with_reducible refine k_B ?_ | with_reducible refine w_and ?_ | with_reducible refine w_or ?_ | with_reducible refine w_not ?_ | with_reducible refine w_if ?_
  | with_reducible refine w_andV ?_ | with_reducible refine w_orV ?_ | with_reducible refine w_notV ?_ | with_reducible refine k_andV ?_ | with_reducible refine k_orV ?_ | with_reducible refine k_notV ?_
  | with_reducible refine w_chain ?_ | with_reducible refine ex_bl ?_ | with_reducible refine w_isN ?_ | with_reducible refine w_notN ?_ | with_reducible refine w_yes ?_
  | with_reducible refine r_I0 ?_ | with_reducible refine r_U ?_ | with_reducible refine r_eqI ?_ | with_reducible refine r_neI ?_ | with_reducible refine r_eqS ?_ | with_reducible refine r_neS ?_ | with_reducible refine r_eqB ?_ | with_reducible refine r_neB ?_
  | with_reducible refine r_abs ?_ | with_reducible refine r_int ?_ | with_reducible refine r_intB ?_
  | with_reducible refine w_sl ?_ | with_reducible refine w_nop ?_ | with_reducible refine w_part ?_ | with_reducible refine k_part ?_ | with_reducible refine w_revL ?_
  | with_reducible refine w_asg ?_ | with_reducible refine w_gname ?_ | with_reducible refine w_gsub ?_ | with_reducible refine w_gnil ?_ | with_reducible refine w_gcons ?_ | with_reducible refine w_retN ?_ | with_reducible refine w_brk ?_ | with_reducible refine w_cont ?_
  | with_reducible refine w_par ?_ | with_reducible refine w_par3 ?_ | with_reducible refine par_ok ?_ | with_reducible refine par_ok3 ?_ | ((with_reducible refine' w_aug ?hv ?_); (case hv => rfl)) | with_reducible refine i_I ?_
  | with_reducible refine w_forL ?_ | with_reducible refine w_forT ?_ | with_reducible refine w_forR1 ?_ | with_reducible refine w_forE ?_ | with_reducible refine w_lcL ?_ | with_reducible refine w_lcT ?_ | with_reducible refine w_lcR ?_
  | ((with_reducible refine a_tup ?hz ?_); (case hz => exact Nat.le_of_ble_eq_true rfl); intro _ _ _ _ _) | ((with_reducible refine a_lst ?hz ?_); (case hz => exact Nat.le_of_ble_eq_true rfl); intro _ _ _ _ _)
  | ((with_reducible refine k_turn1 ?hw ?_); (case hw => rfl)) | ((with_reducible refine k_turn ?hw ?_); (case hw => rfl)) | with_reducible refine r_isV ?_ | with_reducible refine r_isNotV ?_ | with_reducible refine r_isN ?_ | with_reducible refine r_notN ?_ | with_reducible refine w_lcZ ?_
  | ((with_reducible refine r_I ?hc ?_); (case hc => first | decide | assumption))
  | with_reducible refine w_forET ?_
  | ((with_reducible refine w_dnewK ?_); intro _ _ _ _ _) | with_reducible refine w_dput ?_ | with_reducible refine w_lstRg ?_ | with_reducible refine w_lstZip ?_ | with_reducible refine w_callK ?_
  | (with_reducible refine if_pos' ?_) | (with_reducible refine if_neg' ?_))
local macro_rules | `(tactic| walk_at "w") => `(tactic| repeat (walk_at "w1"))

local macro_rules | `(tactic| walk_at "s") => `(tactic| repeat (first | walk_at "w1" | with_reducible refine w_lcS ?_ | with_reducible refine w_m1 ?_ | with_reducible refine w_m0 ?_ | with_reducible refine k_m1 ?_ | with_reducible refine k_m0 ?_ | with_reducible refine k_lcS ?_ | refine r_catS (by decide +kernel) ?_))
def callsV : List V := [.str "call", .str "uncall"]
section
variable {P : Program} {w : World} {K : PySem.W.Frag} {mg : Str → Option Value} {base : Heap}
abbrev s_rhere : Stmt := topS 34
theorem sc_rhere : FnScope ["value", "word", "many"] ["value"] (defScope s_rhere) := ⟨rfl, rfl, rfl, by decide +kernel, rfl, by decide +kernel, by decide +kernel⟩
theorem C_rhere (F : Fn K mg "is_right_here" s_rhere ["value"]) (Z : Bz mg) (gT_CALLS : ∃ pa, (∃ u, mg "CALLS" = some u ∧ RelV (.ref pa) u) ∧ ∀ H, SqT K H pa callsV) (g_MOST_KINDS : ∃ u, mg "MOST_KINDS" = some u ∧ RelV (.int 20) u)
    (CN : CalK P w K mg base 1 "is_name" ["value"] spNameX) (CEx : CalK P w K mg base 3 "is_expression" ["value"] spIsExp) (CCa : Cal P w K mg base 2 "is_called" spCalled) (CNs : Cal P w K mg base 2 "are_names" spNames) (CRp : Cal P w K mg base 5 "is_right_plain" spPlain) : Cal P w K mg base 6 "is_right_here" spRight := by
  have S := sc_rhere
  obtain ⟨pc, g_CALLS, gpc⟩ := gT_CALLS
  refine F.cal S (fun vs H Q E h => ?_) (fun f cdv A' outer s H vs Q E hr h => ?_)
  · obtain ⟨M, v, d, rfl, _⟩ := h; rfl
  · obtain ⟨M, v, d, rfl, hv, hf, q⟩ := h
    refine ⟨_, (pss_cons (ps_if (PW.pt (pw_or (pt_not (pt_val (pe_callB call_isi (by rfl) Z.isinstance (by decide +kernel) (pa_cons (pv 0) (pa_cons (pe_bltn (v := .ty "tuple") (by rfl) Z.tuple (by decide +kernel) rfl) pa_nil))))) (pw_or (pt_cmpR (op_eqD hr.units) (pv 0) (pe_tup pa_nil) (nomark _)) (pw_or1 (pt_not (pt_val (pe_callB call_isi (by rfl) Z.isinstance (by decide +kernel) (pa_cons (pe_ix ix_tup (pv 0) pe_int (fun _ _ => rfl)) (pa_cons (pe_bltn (v := .ty "str") (by rfl) Z.str (by decide +kernel) rfl) pa_nil))))))))) (pss_one (ps_ret pe_bl)) pss_nil)
      (pss_cons (ps_par (i := 1) (j := 2) rfl S.nd rfl rfl (by decide) rfl rfl (pa_cons (pe_ix ix_tup (pv 0) pe_int (fun _ _ => rfl)) (pa_cons (pe_callB (cr_len) (by rfl) Z.len (by decide +kernel) (pa_cons (pv 0) pa_nil)) pa_nil)) (by rfl))
      (pss_cons (ps_if (pt_cmpR op_in_seq (pv 1) (pe_tup (pa_cons pe_str (pa_cons pe_str pa_nil))) (by rfl)) (pss_one (ps_ret (pe_and (pe_cmpR op_eq (pv 2) pe_int (nomark _)) (pe_and (pe_c0 CEx.cal hr (by omega) (by rfl) (pa_cons (pe_ix ix_tup (pv 0) pe_int (fun _ _ => rfl)) pa_nil)) (pe_one (pe_c0 CEx.cal hr (by omega) (by rfl) (pa_cons (pe_ix ix_tup (pv 0) pe_int (fun _ _ => rfl)) pa_nil))))))) pss_nil)
      (pss_cons (ps_if (pt_cmpR op_eq (pv 1) pe_str (nomark _)) (pss_one (ps_ret (pe_and (pe_cmpR op_eq (pv 2) pe_int (nomark _)) (pe_and (pe_c0 CN.cal hr (by omega) (by rfl) (pa_cons (pe_ix ix_tup (pv 0) pe_int (fun _ _ => rfl)) pa_nil)) (pe_and (pe_c0 CEx.cal hr (by omega) (by rfl) (pa_cons (pe_ix ix_tup (pv 0) pe_int (fun _ _ => rfl)) pa_nil)) (pe_one (pe_c0 CEx.cal hr (by omega) (by rfl) (pa_cons (pe_ix ix_tup (pv 0) pe_int (fun _ _ => rfl)) pa_nil)))))))) pss_nil)
      (pss_cons (ps_if (pt_cmpR op_in_seq (pv 1) (pe_gc (by rfl) g_CALLS) (by rfl)) (pss_one (ps_ret (pe_and (pe_cmpR op_eq (pv 2) pe_int (nomark _)) (pe_and (pe_c0 CCa hr (by omega) (by rfl) (pa_cons (pe_ix ix_tup (pv 0) pe_int (fun _ _ => rfl)) pa_nil)) (pe_one (pe_c0 CNs hr (by omega) (by rfl) (pa_cons (pe_ix ix_tup (pv 0) pe_int (fun _ _ => rfl)) (pa_cons (pe_gc (by rfl) g_MOST_KINDS) pa_nil)))))))) pss_nil)
      (pss_cons (ps_if (pt_cmpR op_eq (pv 1) pe_str (nomark _)) (pss_one (ps_ret (pe_and (pe_cmpR op_eq (pv 2) pe_int (nomark _)) (pe_one (pe_callB call_isi (by rfl) Z.isinstance (by decide +kernel) (pa_cons (pe_ix ix_tup (pv 0) pe_int (fun _ _ => rfl)) (pa_cons (pe_bltn (v := .ty "tuple") (by rfl) Z.tuple (by decide +kernel) rfl) pa_nil))))))) pss_nil)
      (pss_one (ps_ret (pe_c0 CRp hr (by omega) (by rfl) (pa_cons (pv 0) pa_nil)))))))))), ?_⟩
    try dsimp only [cxOf, Cx.nox, Cx.wish]
    walk_at "s"
    refine r_isiTup hv ?_
    walk_at "s"
    have q0 := q H (fun _ _ h => h)
    refine if_by (fun h => ?_) (fun h => ?_)
    · have e : isTup d = false := by simpa using h
      walk_at "s"
      cases d <;> first | (simp [isTup] at e; done) | exact q0
    obtain ⟨ds, rfl⟩ : ∃ ds, d = .tuple ds := by cases d <;> simp [isTup] at h ⊢
    obtain ⟨a, xs, rfl, ha, hr'⟩ := Rel.of_tup hv
    walk_at "s"
    rename_i p1 H1 hp1 e1 h1
    refine r_eqD2' (hv.ex e1) (dv_nilT h1) (fine.nice hf) (by decide +kernel) ?_
    rw [eqv_nilT]
    walk_at "s"
    refine if_by (fun h => ?_) (fun h => ?_)
    · have h0 : ds = [] := by simpa using h
      subst h0
      walk_at "s"
      exact q H1 e1
    obtain ⟨d0, as, rfl⟩ : ∃ x r, ds = x :: r := by
      rcases ds with _ | ⟨x, r⟩
      · cases h
      · exact ⟨_, _, rfl⟩
    obtain ⟨x0, xr, rfl, hx0, hr1⟩ := hr'.head
    have ha1 := e1 _ _ ha
    walk_at "s"
    refine r_ixT (.of ha1) (v := x0) (atI_nn (j := 0) rfl rfl) ?_
    walk_at "s"
    refine r_isiStr (hx0.ex e1) ?_
    walk_at "s"
    refine if_by (fun h => ?_) (fun h => ?_)
    · have e : isStr d0 = false := by simpa using h
      walk_at "s"
      have q' := q H1 e1
      cases d0 <;> first | (simp [isStr] at e; done) | exact q'
    obtain ⟨w, rfl⟩ : ∃ w, d0 = .str w := by cases d0 <;> simp [isStr] at h ⊢
    cases hx0
    clear q0
    have q : ∀ H', Ex H H' → Q (.bl (hereR w as)) H' := q
    walk_at "s"
    refine r_ixT (.of ha1) (v := .str w) (atI_nn (j := 0) rfl rfl) ?_
    walk_at "s"
    refine r_len (.inr (.of ha1)) rfl ?_
    walk_at "s"
    rename_i p2 H2 hp2 e2 h2
    have e12 := e1.trans e2
    have ha2 := e2 _ _ ha1
    have hlen : (((V.str w :: xr).length : Nat) : Int) = (as.length : Int) + 1 := by
      have := hr1.1
      rw [List.length_cons]; omega
    have ixv : ∀ {i : Nat} {d : PyData}, as[i]? = some d → ∃ x, xr[i]? = some x ∧ Dv M H x d ∧ fine 62 d = true := fun {i d} h => by
      obtain ⟨x, hx⟩ := get_of_len hr1.1.symm h
      exact ⟨x, hx, hr1.2 i x d hx h, fine.tup_in hf (List.mem_cons_of_mem _ (List.mem_of_getElem? h))⟩
    refine r_in (.inr (.of h2)) rfl (by rfl) ?_
    walk_at "s"
    refine if_by (fun hc => ?_) (fun hc => ?_)
    · have n1 : wIn w ["if", "loop"] = true := hc
      walk_at "s"
      refine if_by (fun h => ?_) (fun h => ?_)
      · have h4 : as.length = 4 := by have h' := of_decide_eq_true h; omega
        obtain ⟨b, c, d, e, rfl⟩ : ∃ b c d e, as = [b, c, d, e] := by
          rcases as with _ | ⟨b, _ | ⟨c, _ | ⟨d, _ | ⟨e, _ | ⟨f, as⟩⟩⟩⟩⟩ <;> first | exact ⟨_, _, _, _, rfl⟩ | (simp at h4; done)
        have hpl : hereR w [b, c, d, e] = (rightExp b && rightExp e) := by unfold hereR; rw [if_pos n1]
        obtain ⟨x1, i1, hx1, f1⟩ := ixv (i := 0) rfl
        obtain ⟨x4, i4, hx4, f4⟩ := ixv (i := 3) rfl
        walk_at "s"
        refine r_ixT (.of ha2) (v := x1) (atI_nn (j := 1) rfl i1) ?_
        walk_at "s"
        refine ⟨M, x1, b, rfl, hx1.ex e12, fine.mono f1 (by decide), fun H7 e7 => ?_⟩
        walk_at "s"
        refine if_by (fun h => ?_) (fun h => ?_)
        · walk_at "s"
          refine r_ixT (.of (e7 _ _ ha2)) (v := x4) (atI_nn (j := 4) rfl i4) ?_
          walk_at "s"
          refine ⟨M, x4, e, rfl, hx4.ex (e12.trans e7), fine.mono f4 (by decide), fun H8 e8 => ?_⟩
          have q' := q _ ((e12.trans e7).trans e8)
          rw [hpl, h, Bool.true_and] at q'
          exact q'
        · have q' := q _ (e12.trans e7)
          rw [hpl, h, Bool.false_and] at q'
          exact q'
      · have h4 : ¬ as.length = 4 := by have h' := of_decide_eq_false h; omega
        have hpl : hereR w as = false := by
          clear hf q hv hr1 hr' ixv hlen
          rcases as with _ | ⟨b, _ | ⟨c, _ | ⟨d, _ | ⟨e, _ | ⟨f, as⟩⟩⟩⟩⟩ <;> first | exact absurd rfl h4 | (unfold hereR; rw [if_pos n1])
        walk_at "s"
        have q' := q _ e12
        rw [hpl] at q'
        exact q'
    have n1 : ¬ wIn w ["if", "loop"] = true := fun z => by
      have h' : wIn w ["if", "loop"] = false := hc
      rw [h'] at z; cases z
    walk_at "s"
    refine if_by (fun hc => ?_) (fun hc => ?_)
    · have n2 := of_decide_eq_true hc
      walk_at "s"
      refine if_by (fun h => ?_) (fun h => ?_)
      · have h4 : as.length = 4 := by have h' := of_decide_eq_true h; omega
        obtain ⟨b, c, d, e, rfl⟩ : ∃ b c d e, as = [b, c, d, e] := by
          rcases as with _ | ⟨b, _ | ⟨c, _ | ⟨d, _ | ⟨e, _ | ⟨f, as⟩⟩⟩⟩⟩ <;> first | exact ⟨_, _, _, _, rfl⟩ | (simp at h4; done)
        have hpl : hereR w [b, c, d, e] = (isNameD b && rightExp c && rightExp e) := by unfold hereR; rw [if_neg n1, if_pos n2]
        obtain ⟨x1, i1, hx1, f1⟩ := ixv (i := 0) rfl
        obtain ⟨x2, i2, hx2, f2⟩ := ixv (i := 1) rfl
        obtain ⟨x4, i4, hx4, f4⟩ := ixv (i := 3) rfl
        walk_at "s"
        refine r_ixT (.of ha2) (v := x1) (atI_nn (j := 1) rfl i1) ?_
        walk_at "s"
        refine ⟨M, x1, b, rfl, hx1.ex e12, fine.shortS f1, fun H7 e7 => ?_⟩
        walk_at "s"
        refine if_by (fun h => ?_) (fun h => ?_)
        · walk_at "s"
          refine r_ixT (.of (e7 _ _ ha2)) (v := x2) (atI_nn (j := 2) rfl i2) ?_
          walk_at "s"
          refine ⟨M, x2, c, rfl, hx2.ex (e12.trans e7), fine.mono f2 (by decide), fun H8 e8 => ?_⟩
          walk_at "s"
          refine if_by (fun h' => ?_) (fun h' => ?_)
          · walk_at "s"
            refine r_ixT (.of ((e7.trans e8) _ _ ha2)) (v := x4) (atI_nn (j := 4) rfl i4) ?_
            walk_at "s"
            refine ⟨M, x4, e, rfl, hx4.ex ((e12.trans e7).trans e8), fine.mono f4 (by decide), fun H9 e9 => ?_⟩
            have q' := q _ (((e12.trans e7).trans e8).trans e9)
            rw [hpl, h, h', Bool.true_and, Bool.true_and] at q'
            exact q'
          · have q' := q _ ((e12.trans e7).trans e8)
            rw [hpl, h, h', Bool.true_and, Bool.false_and] at q'
            exact q'
        · have q' := q _ (e12.trans e7)
          rw [hpl, h, Bool.false_and, Bool.false_and] at q'
          exact q'
      · have h4 : ¬ as.length = 4 := by have h' := of_decide_eq_false h; omega
        have hpl : hereR w as = false := by
          clear hf q hv hr1 hr' ixv hlen
          rcases as with _ | ⟨b, _ | ⟨c, _ | ⟨d, _ | ⟨e, _ | ⟨f, as⟩⟩⟩⟩⟩ <;> first | exact absurd rfl h4 | (unfold hereR; rw [if_neg n1, if_pos n2])
        walk_at "s"
        have q' := q _ e12
        rw [hpl] at q'
        exact q'
    have n2 : ¬ w = "local" := of_decide_eq_false hc
    walk_at "s"
    refine r_in (.inr (gpc _)) rfl (by rfl) ?_
    walk_at "s"
    refine if_by (fun hc => ?_) (fun hc => ?_)
    · have n3 : wIn w ["call", "uncall"] = true := hc
      walk_at "s"
      refine if_by (fun h => ?_) (fun h => ?_)
      · have h4 : as.length = 2 := by have h' := of_decide_eq_true h; omega
        obtain ⟨b, c, rfl⟩ : ∃ b c, as = [b, c] := by
          rcases as with _ | ⟨b, _ | ⟨c, _ | ⟨d, as⟩⟩⟩ <;> first | exact ⟨_, _, rfl⟩ | (simp at h4; done)
        have hpl : hereR w [b, c] = (isCalledD b && areNamesD 20 c) := by unfold hereR; rw [if_neg n1, if_neg n2, if_pos n3]
        obtain ⟨x1, i1, hx1, f1⟩ := ixv (i := 0) rfl
        obtain ⟨x2, i2, hx2, f2⟩ := ixv (i := 1) rfl
        walk_at "s"
        refine r_ixT (.of ha2) (v := x1) (atI_nn (j := 1) rfl i1) ?_
        walk_at "s"
        refine ⟨M, x1, b, rfl, hx1.ex e12, fine.mono f1 (by decide), fun H7 e7 => ?_⟩
        walk_at "s"
        refine if_by (fun h => ?_) (fun h => ?_)
        · walk_at "s"
          refine r_ixT (.of (e7 _ _ ha2)) (v := x2) (atI_nn (j := 2) rfl i2) ?_
          walk_at "s"
          refine ⟨M, x2, c, 20, rfl, by decide, hx2.ex (e12.trans e7), fine.mono f2 (by decide), fun H8 e8 => ?_⟩
          have q' := q _ ((e12.trans e7).trans e8)
          rw [hpl, h, Bool.true_and] at q'
          exact q'
        · have q' := q _ (e12.trans e7)
          rw [hpl, h, Bool.false_and] at q'
          exact q'
      · have h4 : ¬ as.length = 2 := by have h' := of_decide_eq_false h; omega
        have hpl : hereR w as = false := by
          clear hf q hv hr1 hr' ixv hlen
          rcases as with _ | ⟨b, _ | ⟨c, _ | ⟨d, as⟩⟩⟩ <;> first | exact absurd rfl h4 | (unfold hereR; rw [if_neg n1, if_neg n2, if_pos n3])
        walk_at "s"
        have q' := q _ e12
        rw [hpl] at q'
        exact q'
    have n3 : ¬ wIn w ["call", "uncall"] = true := fun z => by
      have h' : wIn w ["call", "uncall"] = false := hc
      rw [h'] at z; cases z
    walk_at "s"
    refine if_by (fun hc => ?_) (fun hc => ?_)
    · have n4 := of_decide_eq_true hc
      walk_at "s"
      refine if_by (fun h => ?_) (fun h => ?_)
      · have h4 : as.length = 1 := by have h' := of_decide_eq_true h; omega
        obtain ⟨b, rfl⟩ : ∃ b, as = [b] := by
          rcases as with _ | ⟨b, _ | ⟨c, as⟩⟩ <;> first | exact ⟨_, rfl⟩ | (simp at h4; done)
        obtain ⟨x1, i1, hx1, f1⟩ := ixv (i := 0) rfl
        have hpl : hereR w [b] = isTup b := by
          unfold hereR
          rw [if_neg n1, if_neg n2, if_neg n3, if_pos n4]
          cases b <;> rfl
        walk_at "s"
        refine r_ixT (.of ha2) (v := x1) (atI_nn (j := 1) rfl i1) ?_
        walk_at "s"
        refine r_isiTup (hx1.ex e12) ?_
        have q' := q _ e12
        rw [hpl] at q'
        exact q'
      · have h4 : ¬ as.length = 1 := by have h' := of_decide_eq_false h; omega
        have hpl : hereR w as = false := by
          clear hf q hv hr1 hr' ixv hlen
          unfold hereR
          rw [if_neg n1, if_neg n2, if_neg n3, if_pos n4]
          rcases as with _ | ⟨b, _ | ⟨c, as⟩⟩
          · rfl
          · exact absurd rfl h4
          · cases b <;> rfl
        walk_at "s"
        have q' := q _ e12
        rw [hpl] at q'
        exact q'
    have n4 : ¬ w = "row" := of_decide_eq_false hc
    walk_at "s"
    refine ⟨M, _, w, as, rfl, hv.ex e12, hf, fun H7 e7 => ?_⟩
    have q' := q _ (e12.trans e7)
    rw [show hereR w as = plainR w as by unfold hereR; rw [if_neg n1, if_neg n2, if_neg n3, if_neg n4]] at q'
    exact q'
end
end BkL
end
section
namespace BkL
open PySem PySem.Spec L2 BkG TL
local macro_rules | `(tactic| walk_at "w1") => `(tactic| first
  | with_reducible refine w_seq ?_ | with_reducible refine w_set ?_ | with_reducible refine w_ret ?_ | with_reducible refine w_drop ?_ | with_reducible refine w_ifS ?_
  | with_reducible refine w_next ?_ | with_reducible refine w_c ?_ | ((with_reducible refine' w_var ?hv ?_); (case hv => rfl)) | with_reducible refine w_op ?_ | with_reducible refine w_cons ?_ | with_reducible refine w_nil ?_
  | with_reducible refine w_cb ?_ | with_reducible refine w_call ?_ | with_reducible refine w_tup ?_ | with_reducible refine w_lst ?_ | with_reducible refine w_bm ?_ | with_reducible refine w_bm0 ?_ | with_reducible refine w_un ?_
  | with_reducible refine w_test ?_ | with_reducible refine w_B ?_ | with_reducible refine k_B ?_ | with_reducible refine w_and ?_ | with_reducible refine w_or ?_ | with_reducible refine w_not ?_ | with_reducible refine w_if ?_
  | with_reducible refine w_andV ?_ | with_reducible refine w_orV ?_ | with_reducible refine w_notV ?_ | with_reducible refine k_andV ?_ | with_reducible refine k_orV ?_ | with_reducible refine k_notV ?_
  | with_reducible refine w_chain ?_ | with_reducible refine ex_bl ?_ | with_reducible refine w_isN ?_ | with_reducible refine w_notN ?_ | with_reducible refine w_yes ?_
  | with_reducible refine r_I0 ?_ | with_reducible refine r_U ?_ | with_reducible refine r_eqI ?_ | with_reducible refine r_neI ?_ | with_reducible refine r_eqS ?_ | with_reducible refine r_neS ?_ | with_reducible refine r_eqB ?_ | with_reducible refine r_neB ?_
  | with_reducible refine r_abs ?_ | with_reducible refine r_int ?_ | with_reducible refine r_intB ?_
  | with_reducible refine w_sl ?_ | with_reducible refine w_nop ?_ | with_reducible refine w_part ?_ | with_reducible refine k_part ?_ | with_reducible refine w_revL ?_
  | with_reducible refine w_asg ?_ | with_reducible refine w_gname ?_ | with_reducible refine w_gsub ?_ | with_reducible refine w_gnil ?_ | with_reducible refine w_gcons ?_ | with_reducible refine w_retN ?_ | with_reducible refine w_brk ?_ | with_reducible refine w_cont ?_
  | with_reducible refine w_par ?_ | with_reducible refine w_par3 ?_ | with_reducible refine par_ok ?_ | with_reducible refine par_ok3 ?_ | ((with_reducible refine' w_aug ?hv ?_); (case hv => rfl)) | with_reducible refine i_I ?_
  | with_reducible refine w_forL ?_ | with_reducible refine w_forT ?_ | with_reducible refine w_forR1 ?_ | with_reducible refine w_forE ?_ | with_reducible refine w_lcL ?_ | with_reducible refine w_lcT ?_ | with_reducible refine w_lcR ?_
  | ((with_reducible refine a_tup ?hz ?_); (case hz => exact Nat.le_of_ble_eq_true rfl); intro _ _ _ _ _) | ((with_reducible refine a_lst ?hz ?_); (case hz => exact Nat.le_of_ble_eq_true rfl); intro _ _ _ _ _)
  | ((with_reducible refine k_turn1 ?hw ?_); (case hw => rfl)) | ((with_reducible refine k_turn ?hw ?_); (case hw => rfl)) | with_reducible refine r_isV ?_ | with_reducible refine r_isNotV ?_ | with_reducible refine r_isN ?_ | with_reducible refine r_notN ?_ | with_reducible refine w_lcZ ?_
  | ((with_reducible refine r_I ?hc ?_); (case hc => first | decide | assumption))
  | with_reducible refine w_forET ?_
  | ((with_reducible refine w_dnewK ?_); intro _ _ _ _ _) | with_reducible refine w_dput ?_ | with_reducible refine w_lstRg ?_ | with_reducible refine w_lstZip ?_ | with_reducible refine w_callK ?_
  | (with_reducible refine if_pos' ?_) | (with_reducible refine if_neg' ?_))
local macro_rules | `(tactic| walk_at "w") => `(tactic| repeat (walk_at "w1"))

local macro_rules | `(tactic| walk_at "s") => `(tactic| repeat (first | walk_at "w1" | with_reducible refine w_lcS ?_ | with_reducible refine w_m1 ?_ | with_reducible refine w_m0 ?_ | with_reducible refine k_m1 ?_ | with_reducible refine k_m0 ?_ | with_reducible refine k_lcS ?_ | refine r_catS (by decide +kernel) ?_))
def pairD2 (p : PyData × Nat) : PyData := .tuple [p.1, .int (p.2 : Int)]
theorem dv_two2 {M : List Addr} {H : Hp} {p : Addr} {a b : V} {d e : PyData} (h : H p = some (.tup [a, b])) (ha : Dv M H a d) (hb : Dv M H b e) : Dv M H (.ref p) (.tuple [d, e]) := Rel.tup (Rel.cons ha (Rel.one hb)) h
theorem pairs_fine {ds : List (PyData × Nat)} (h : ∀ d ∈ ds, fine 62 d.1 = true) : ∀ d ∈ ds.map pairD2, fine 63 d = true := fun d hd => by
  obtain ⟨p, hp, rfl⟩ := List.mem_map.mp hd
  refine fine.tup (n := 62) (by simp) fun e he => ?_
  simp only [List.mem_cons, List.not_mem_nil, or_false] at he
  rcases he with rfl | rfl
  · exact h p hp
  · exact fine.mk (nice.mk rfl rfl) rfl
section
variable {P : Program} {w : World} {K : PySem.W.Frag} {mg : Str → Option Value} {base : Heap}
abbrev s_innerst : Stmt := topS 35
theorem sc_innerst : FnScope ["statement", "word"] ["statement"] (defScope s_innerst) := ⟨rfl, rfl, rfl, by decide +kernel, rfl, by decide +kernel, by decide +kernel⟩
theorem C_innerst (F : Fn K mg "inner_statements" s_innerst ["statement"]) (Z : Bz mg) : Cal P w K mg base 1 "inner_statements" spInners := by
  have S := sc_innerst
  refine F.cal S (fun vs H Q E h => ?_) (fun f cdv A' outer s H vs Q E hr h => ?_)
  · obtain ⟨M, v, d, rfl, _⟩ := h; rfl
  · obtain ⟨M, v, d, rfl, hv, hR, q⟩ := h
    refine ⟨_, (pss_cons (ps_set (i := 1) S.nd rfl (Or.inl rfl) (pe_ix ix_tup (pv 0) pe_int (fun _ _ => rfl)))
      (pss_cons (ps_if (pt_cmpR op_in_seq (pv 1) (pe_tup (pa_cons pe_str (pa_cons pe_str pa_nil))) (by rfl)) (pss_one (ps_ret (pe_slice sl_tupA (pv 0) (po_some pe_int) (po_some pe_int)))) pss_nil)
      (pss_cons (ps_if (pt_cmpR op_eq (pv 1) pe_str (nomark _)) (pss_one (ps_ret (pe_slice sl_tupA (pv 0) (po_some pe_int) (po_some pe_int)))) pss_nil)
      (pss_one (ps_ret (pe_ifExp (pt_cmpR op_eq (pv 1) pe_str (nomark _)) (pe_ix ix_tup (pv 0) pe_int (fun _ _ => rfl)) (pe_tup pa_nil))))))), ?_⟩
    try dsimp only [cxOf, Cx.nox, Cx.wish]
    obtain ⟨w, as, rfl⟩ : ∃ w as, d = .tuple (.str w :: as) := by
      cases d with
      | tuple ds =>
        rcases ds with _ | ⟨x, as⟩
        · cases hR
        · cases x <;> first | exact ⟨_, _, rfl⟩ | cases hR
      | _ => cases hR
    have hR : hereR w as = true := hR
    obtain ⟨a, xs, rfl, ha, hr'⟩ := Rel.of_tup hv
    obtain ⟨x0, xr, rfl, hx0, hr1⟩ := hr'.head
    cases hx0
    walk_at "s"
    refine r_ixT (.of ha) (v := .str w) (atI_nn (j := 0) rfl rfl) ?_
    walk_at "s"
    rename_i p2 H2 hp2 e2 h2
    refine r_in (.inr (.of h2)) rfl (by rfl) ?_
    walk_at "s"
    have ha2 := e2 _ _ ha
    refine if_by (fun hc => ?_) (fun hc => ?_)
    · have n1 : wIn w ["if", "loop"] = true := hc
      obtain ⟨b, c, d, e, rfl⟩ := hereR_if n1 hR
      obtain ⟨x1, xr, rfl, hx1, hr2⟩ := hr1.head
      obtain ⟨x2, xr, rfl, hx2, hr3⟩ := hr2.head
      obtain ⟨x3, xr, rfl, hx3, hr4⟩ := hr3.head
      obtain ⟨x4, xr, rfl, hx4, hr5⟩ := hr4.head
      obtain rfl := hr5.none
      walk_at "s"
      refine r_slT ha2 fun p3 H3 e3 h3 => ?_
      refine q p3 [x2, x3] H3 (e2.trans e3) h3 ?_
      rw [show innersS (.tuple [.str w, b, c, d, e]) = [c, d] by unfold innersS; simp only [n1, if_true]; rfl]
      exact (Rel.cons hx2 (Rel.one hx3)).ex (e2.trans e3)
    have n1 : ¬ wIn w ["if", "loop"] = true := fun z => by
      have h' : wIn w ["if", "loop"] = false := hc
      rw [h'] at z; cases z
    walk_at "s"
    refine if_by (fun hc => ?_) (fun hc => ?_)
    · have n2 := of_decide_eq_true hc
      obtain ⟨b, c, d, e, rfl⟩ := hereR_local n1 n2 hR
      obtain ⟨x1, xr, rfl, hx1, hr2⟩ := hr1.head
      obtain ⟨x2, xr, rfl, hx2, hr3⟩ := hr2.head
      obtain ⟨x3, xr, rfl, hx3, hr4⟩ := hr3.head
      obtain ⟨x4, xr, rfl, hx4, hr5⟩ := hr4.head
      obtain rfl := hr5.none
      walk_at "s"
      refine r_slT ha2 fun p3 H3 e3 h3 => ?_
      refine q p3 [x3] H3 (e2.trans e3) h3 ?_
      rw [show innersS (.tuple [.str w, b, c, d, e]) = [d] by unfold innersS; simp only [n1, n2, if_true, if_false, Bool.false_eq_true]; rw [n2] at n1; simp only [n1, if_false, Bool.false_eq_true]; rfl]
      exact (Rel.one hx3).ex (e2.trans e3)
    have n2 : ¬ w = "local" := of_decide_eq_false hc
    walk_at "s"
    refine if_by (fun hc => ?_) (fun hc => ?_)
    · have n4 := of_decide_eq_true hc
      obtain ⟨ds, rfl⟩ := hereR_row n4 hR
      obtain ⟨x1, xr, rfl, hx1, hr2⟩ := hr1.head
      obtain rfl := hr2.none
      obtain ⟨b, ys, rfl, hb, hry⟩ := Rel.of_tup hx1
      walk_at "s"
      refine r_ixT (.of ha2) (v := .ref b) (atI_nn (j := 1) rfl rfl) ?_
      refine q b ys H2 e2 (e2 _ _ hb) ?_
      rw [row_inners n4]
      exact hry.ex e2
    have n4 : ¬ w = "row" := of_decide_eq_false hc
    walk_at "s"
    rename_i p3 H3 hp3 e3 h3
    refine q p3 [] H3 (e2.trans e3) h3 ?_
    rw [show innersS (.tuple (.str w :: as)) = [] by unfold innersS; simp only [n1, n2, n4, if_false, Bool.false_eq_true]]
    exact Rel.nil
abbrev s_isst : Stmt := topS 36
theorem sc_isst : FnScope ["value", "waiting", "parts", "one", "deep", "part"] ["value"] (defScope s_isst) := ⟨rfl, rfl, rfl, by decide +kernel, rfl, by decide +kernel, by decide +kernel⟩
theorem C_isst (F : Fn K mg "is_statement" s_isst ["value"]) (Z : Bz mg) (g_MOST_DEEP : ∃ u, mg "MOST_DEEP" = some u ∧ RelV (.int 20) u) (g_MOST_STATEMENTS : ∃ u, mg "MOST_STATEMENTS" = some u ∧ RelV (.int 400) u) (CRh : Cal P w K mg base 6 "is_right_here" spRight) (CIs : Cal P w K mg base 1 "inner_statements" spInners) : CalK P w K mg base 7 "is_statement" ["value"] spIsSt := by
  have S := sc_isst
  refine F.calK S (fun vs H Q E h => ?_) (fun f cdv A' outer s H vs Q E hr h => ?_)
  · obtain ⟨M, v, d, rfl, _⟩ := h; rfl
  · obtain ⟨M, v, d, rfl, hv, hf, q⟩ := h
    refine ⟨_, (pss_cons (ps_par (i := 1) (j := 2) rfl S.nd rfl rfl (by decide) rfl rfl (pa_cons (pe_lst (pa_cons (pe_tup (pa_cons (pv 0) (pa_cons pe_int pa_nil))) pa_nil)) (pa_cons pe_int pa_nil)) (by rfl))
      (pss_cons (ps_while PassesOwn.never (pt_cmpR (op_neD hr.units) (pv 1) (pe_lst pa_nil) (nomark _)) (pss_cons (ps_asg (pe_bm0 PySem.F.plainAttrs_list PySem.F.slot_list_pop PySem.F.type_list_pop mt_pop (pv 1)) (pg_tup rfl (pgs_cons (pg_name (i := 3) S.nd rfl (Or.inl rfl)) (pgs_cons (pg_name (i := 4) S.nd rfl (Or.inr rfl)) pgs_nil))))
      (pss_cons (ps_aug (i := 2) S.nd rfl (Or.inl rfl) pe_int ip_add)
      (pss_cons (ps_if (PW.pt (pw_or (pt_cmpR op_gt (pv 4) (pe_gc (by rfl) g_MOST_DEEP) (nomark _)) (pw_or (pt_cmpR op_gt (pv 2) (pe_gc (by rfl) g_MOST_STATEMENTS) (nomark _)) (pw_or1 (pt_not (pt_val (pe_c0 CRh hr (by omega) (by rfl) (pa_cons (pv 3) pa_nil)))))))) (pss_one (ps_ret pe_bl)) pss_nil)
      (pss_one (ps_expr (pe_bm PySem.F.plainAttrs_list PySem.F.slot_list_extend PySem.F.type_list_extend mt_extend (pv 1) (pa_cons (pe_lc (own := [("part", 5)]) (g := (gName 5)) (tt := tYes) rfl S.nd (pi_tup (pe_c0 CIs hr (by omega) (by rfl) (pa_cons (pv 3) pa_nil))) (blkOk_by (N := ["value", "waiting", "parts", "one", "deep", "part"]) (sc := defScope s_isst) (by decide +kernel)) (fun _ _ _ _ _ => (pg_name (i := 5) S.nd rfl (Or.inl rfl))) (fun _ _ _ _ _ => pts_nil) (fun _ _ _ _ _ => (pe_tup (pa_cons (pv 5) (pa_cons (pe_op op_add (pv 4) pe_int) pa_nil))))) pa_nil))))))))
      (pss_one (ps_ret pe_bl)))), ?_⟩
    try dsimp only [cxOf, Cx.nox, Cx.wish]
    walk_at "s"
    rename_i p0 H0 hp0 e0 h0 W H1 hW e1 h1
    have e01 := e0.trans e1
    refine w_while (fun m σ' H' => ∃ (xs : List V) (ds : List (PyData × Nat)) (parts : Nat) (z3 z4 z5 : Option V), σ' = [some v, some (.ref W), some (.int parts), z3, z4, z5] ∧ H' W = some (.lst xs) ∧ Rel (W :: M) H' xs (ds.map pairD2) ∧ (∀ d ∈ ds, fine 62 d.1 = true) ∧ ds.length ≤ 1000 * parts + 1 ∧ parts ≤ 400 ∧ m + parts = 400 ∧ Ex H0 H' ∧ leftS ds parts = rightSt d) 400
      ⟨[.ref p0], [(d, 1)], 0, none, none, none, rfl, h1, Rel.one (dv_two2 (e1 _ _ h0) (((hv.ex e0).add hW).ex e1) (.int 1)), (fun d' h => by rw [List.mem_singleton.mp h]; exact hf), by simp, by decide, rfl, e1, leftS_start d⟩ (fun m σ' H' hP => ?_)
    obtain ⟨xs, ds, parts, z3, z4, z5, rfl, hx, hrel, hfi, hlen, hp60, hm, eH, hleft⟩ := hP
    walk_at "s"
    rename_i p2 H2 hp2 e2 h2
    refine r_neD (.lst (.of (e2 _ _ hx)) (dpAll_of hrel.1 fun i v d a b => ((hrel.2 i v d a b).ex e2).dp)) (.lst (.of h2) .nil) (shaped_lst (pairs_fine hfi)) (by rfl) ?_
    rw [eqv_nil]
    walk_at "s"
    refine k_wh (fun hb => ?_) fun hb => ?_
    · have hne : xs ≠ [] := by
        rintro rfl
        have h0 : ds = [] := by
          have := hrel.1
          rw [List.length_map] at this
          exact List.length_eq_zero_iff.mp this.symm
        rw [h0] at hb; cases hb
      have hdn : ds ≠ [] := by
        rintro rfl
        exact hne hrel.none
      obtain ⟨es, ⟨e, k⟩, rfl⟩ := list_last hdn
      rw [List.map_append] at hrel
      obtain ⟨ys, x, es', e', rfl, hee, hxe, hye⟩ := hrel.last hne
      obtain ⟨he1, he2⟩ := List.append_inj' hee rfl
      have he3 : pairD2 (e, k) = e' := by injection he2
      subst he1 he3
      have fe : fine 62 e = true := hfi (e, k) (by simp)
      obtain ⟨px, pys, rfl, hpx, hprel⟩ := Rel.of_tup hxe
      obtain ⟨vx, pr, rfl, hvx, hpr1⟩ := hprel.head
      obtain ⟨vk, pr, rfl, hvk, hpr2⟩ := hpr1.head
      obtain rfl := hpr2.none
      cases hvk
      walk_at "s"
      refine ⟨ty_list (e2 _ _ hx), r_pop (e2 _ _ hx) (y := .ref px) (by simp) fun H3 k3 h3 => ?_⟩
      rw [List.dropLast_concat] at h3
      have kd3 : Kd (W :: M) H2 H3 := ⟨fun a xs h => k3 _ _ h (fun z => by rw [List.mem_singleton.mp z, e2 _ _ hx] at h; cases h), fun a xs h n => k3 _ _ h (fun z => n (by rw [List.mem_singleton.mp z]; exact List.mem_cons_self))⟩
      have eH3 : Ex H0 H3 := Ex.mut (eH.trans e2) hW fun a o n h => k3 _ _ h (by simpa using n)
      have hpx3 := kd3.1 _ _ (e2 _ _ hpx)
      have hvx3 := (hvx.ex e2).keep kd3
      have hye3 : Rel (W :: M) H3 ys (es.map pairD2) := (hye.ex e2).keep kd3
      refine w_gtup (.of hpx3) rfl ?_
      refine w_gcons (w_gname (w_gcons (w_gname (w_gnil ?_))))
      walk_at "s"
      have eF : ∀ {H'}, Ex H0 H' → leftS (es ++ [(e, k)]) parts = false → Q (.bl false) H' := fun e' hz => by
        have q' := q _ (e0.trans e')
        rw [← hleft, hz] at q'
        exact q'
      refine if_by (fun hb1 => ?_) (fun hb1 => ?_)
      · walk_at "s"
        have h' : (20 : Int) < (k : Int) := of_decide_eq_true hb1
        exact eF eH3 (leftS_deep (by omega))
      have hk : k ≤ 20 := by
        have h' : ¬ (20 : Int) < (k : Int) := of_decide_eq_false hb1
        omega
      walk_at "s"
      refine if_by (fun hb2 => ?_) (fun hb2 => ?_)
      · walk_at "s"
        have h' : (400 : Int) < (parts : Int) + 1 := of_decide_eq_true hb2
        exact eF eH3 (leftS_many (by omega))
      have hpa : parts + 1 ≤ 400 := by
        have h' : ¬ (400 : Int) < (parts : Int) + 1 := of_decide_eq_false hb2
        omega
      walk_at "s"
      refine ⟨W :: M, vx, e, rfl, hvx3, fine.mono fe (by decide), fun H4 e4 => ?_⟩
      walk_at "s"
      refine if_by (fun hb3 => ?_) (fun hb3 => ?_)
      · walk_at "s"
        exact eF (eH3.trans e4) (leftS_wrong (by simpa using hb3))
      have hri : rightHere e = true := by simpa using hb3
      have h34 := e4 _ _ h3
      walk_at "s"
      refine ⟨ty_list h34, ?_⟩
      walk_at "s"
      refine ⟨W :: M, vx, e, rfl, hvx3.ex e4, hri, fun q4 is H5 e5 h5q hrel5 => ?_⟩
      have e45 := e4.trans e5
      have h35 := e45 _ _ h3
      have hil := inners_len fe
      refine k_lcT (.of h5q) (lcT (xs := is) (fun i acc D H' => Ex H5 H' ∧ Rel (D :: W :: M) H' acc (((innersS e).take i).map fun e => pairD2 (e, k + 1))) (fun D H2 _ e _ => ⟨e, by rw [List.take_zero]; exact Rel.nil⟩) (fun i acc D H' _ p => .of (p.1 _ _ h5q)) (fun i y acc D H' hxi hlt hD hacc p => ?_) (fun acc l6 H6 _ hl6 h6 p => ?_))
      · obtain ⟨e6, hra⟩ := p
        obtain ⟨z, hz⟩ := get_of_len hrel5.1 hxi
        have hi : i < (innersS e).length := (List.getElem?_eq_some_iff.mp hz).1
        walk_at "s"
        rename_i pt Ht hpt et ht
        have dvp : Dv (D :: W :: M) Ht (.ref pt) (pairD2 (z, k + 1)) := dv_two2 ht ((((hrel5.2 i y z hxi hz).add hD).ex e6).ex et) (by
          rw [show ((k : Int) + 1) = ((k + 1 : Nat) : Int) from rfl]; exact .int _)
        refine k_lc (et _ _ hacc) hlt (by omega) fun H9 h9 k9 => ⟨Ex.mut (e6.trans et) hD k9, ?_⟩
        rw [take_map_more hz]
        have kd9 : Kd (D :: W :: M) Ht H9 := ⟨fun a xs h => k9 _ _ (fun z => by rw [z, et _ _ hacc] at h; cases h) h, fun a xs h n => k9 _ _ (fun z => n (by rw [z]; exact List.mem_cons_self)) h⟩
        exact ((hra.ex et).keep kd9).append (Rel.one (dvp.keep kd9))
      obtain ⟨e6, hra⟩ := p
      rw [hrel5.1, List.take_length] at hra
      have hra2 : Rel (W :: M) H6 acc ((innersS e).map fun e => pairD2 (e, k + 1)) := ⟨hra.1, fun i v d a b => (hra.2 i v d a b).sub fun a h => List.mem_cons_of_mem _ h⟩
      have h36 := e6 _ _ h35
      have hal : acc.length ≤ 1000 := by rw [hra.1, List.length_map]; exact hil
      have hyl : ys.length = es.length := by rw [hye.1, List.length_map]
      rw [List.length_append, List.length_singleton] at hlen
      walk_at "s"
      refine r_extend h36 h6 (by omega) fun H7 k7 h7 => ?_
      have kd7 : Kd (W :: M) H6 H7 := ⟨fun a xs h => k7 _ _ h (fun z => by rw [List.mem_singleton.mp z, h36] at h; cases h), fun a xs h n => k7 _ _ h (fun z => n (by rw [List.mem_singleton.mp z]; exact List.mem_cons_self))⟩
      have eH7 : Ex H0 H7 := Ex.mut ((eH3.trans e45).trans e6) hW fun a o n h => k7 _ _ h (by simpa using n)
      refine ⟨m - 1, by omega, ys ++ acc, es ++ (innersS e).map (fun e => (e, k + 1)), parts + 1, _, _, _, rfl, h7, ?_, fun d' hd' => ?_, ?_, hpa, by omega, eH7, ?_⟩
      · rw [List.map_append, List.map_map]
        exact Rel.append (((hye3.ex e45).ex e6).keep kd7) (hra2.keep kd7)
      · rcases List.mem_append.mp hd' with h | h
        · exact hfi d' (by simp [h])
        · obtain ⟨z, hz, rfl⟩ := List.mem_map.mp h
          exact inners_fine fe hz
      · rw [List.length_append, List.length_map]
        omega
      · rw [← hleft, leftS_step hri hk]
    · have h0 : ds = [] := by
        rcases ds with _ | ⟨y, r⟩
        · rfl
        · cases hb
      walk_at "s"
      have q' := q _ (e0.trans (eH.trans e2))
      rw [← hleft, h0, leftS_nil hp60] at q'
      exact q'
end
end BkL
end
section
namespace BkL
open PySem PySem.Spec L2 BkG
local macro_rules | `(tactic| walk_at "w1") => `(tactic| first
  | with_reducible refine w_seq ?_ | with_reducible refine w_set ?_ | with_reducible refine w_ret ?_ | with_reducible refine w_drop ?_ | with_reducible refine w_ifS ?_
  | with_reducible refine w_next ?_ | with_reducible refine w_c ?_ | ((with_reducible refine' w_var ?hv ?_); (case hv => rfl)) | with_reducible refine w_op ?_ | with_reducible refine w_cons ?_ | with_reducible refine w_nil ?_
  | with_reducible refine w_cb ?_ | with_reducible refine w_call ?_ | with_reducible refine w_tup ?_ | with_reducible refine w_lst ?_ | with_reducible refine w_bm ?_ | with_reducible refine w_bm0 ?_ | with_reducible refine w_un ?_
  | with_reducible refine w_test ?_ | with_reducible refine w_B ?_ | with_reducible refine k_B ?_ | with_reducible refine w_and ?_ | with_reducible refine w_or ?_ | with_reducible refine w_not ?_ | with_reducible refine w_if ?_
  | with_reducible refine w_andV ?_ | with_reducible refine w_orV ?_ | with_reducible refine w_notV ?_ | with_reducible refine k_andV ?_ | with_reducible refine k_orV ?_ | with_reducible refine k_notV ?_
  | with_reducible refine w_chain ?_ | with_reducible refine ex_bl ?_ | with_reducible refine w_isN ?_ | with_reducible refine w_notN ?_ | with_reducible refine w_yes ?_
  | with_reducible refine r_I0 ?_ | with_reducible refine r_U ?_ | with_reducible refine r_eqI ?_ | with_reducible refine r_neI ?_ | with_reducible refine r_eqS ?_ | with_reducible refine r_neS ?_ | with_reducible refine r_eqB ?_ | with_reducible refine r_neB ?_
  | with_reducible refine r_abs ?_ | with_reducible refine r_int ?_ | with_reducible refine r_intB ?_
  | with_reducible refine w_sl ?_ | with_reducible refine w_nop ?_ | with_reducible refine w_part ?_ | with_reducible refine k_part ?_ | with_reducible refine w_revL ?_
  | with_reducible refine w_asg ?_ | with_reducible refine w_gname ?_ | with_reducible refine w_gsub ?_ | with_reducible refine w_gnil ?_ | with_reducible refine w_gcons ?_ | with_reducible refine w_retN ?_ | with_reducible refine w_brk ?_ | with_reducible refine w_cont ?_
  | with_reducible refine w_par ?_ | with_reducible refine w_par3 ?_ | with_reducible refine par_ok ?_ | with_reducible refine par_ok3 ?_ | ((with_reducible refine' w_aug ?hv ?_); (case hv => rfl)) | with_reducible refine i_I ?_
  | with_reducible refine w_forL ?_ | with_reducible refine w_forT ?_ | with_reducible refine w_forR1 ?_ | with_reducible refine w_forE ?_ | with_reducible refine w_lcL ?_ | with_reducible refine w_lcT ?_ | with_reducible refine w_lcR ?_
  | ((with_reducible refine a_tup ?hz ?_); (case hz => exact Nat.le_of_ble_eq_true rfl); intro _ _ _ _ _) | ((with_reducible refine a_lst ?hz ?_); (case hz => exact Nat.le_of_ble_eq_true rfl); intro _ _ _ _ _)
  | ((with_reducible refine k_turn1 ?hw ?_); (case hw => rfl)) | ((with_reducible refine k_turn ?hw ?_); (case hw => rfl)) | with_reducible refine r_isV ?_ | with_reducible refine r_isNotV ?_ | with_reducible refine r_isN ?_ | with_reducible refine r_notN ?_ | with_reducible refine w_lcZ ?_
  | ((with_reducible refine r_I ?hc ?_); (case hc => first | decide | assumption))
  | with_reducible refine w_forET ?_
  | ((with_reducible refine w_dnewK ?_); intro _ _ _ _ _) | with_reducible refine w_dput ?_ | with_reducible refine w_lstRg ?_ | with_reducible refine w_lstZip ?_ | with_reducible refine w_callK ?_
  | (with_reducible refine if_pos' ?_) | (with_reducible refine if_neg' ?_))
local macro_rules | `(tactic| walk_at "w") => `(tactic| repeat (walk_at "w1"))

section
variable {P : Program} {w : World} {K : PySem.W.Frag} {mg : Str → Option Value} {base : Heap}
abbrev s_iskind : Stmt := topS 16
theorem sc_iskind : FnScope ["value"] ["value"] (defScope s_iskind) := ⟨rfl, rfl, rfl, by decide +kernel, rfl, by decide +kernel, by decide +kernel⟩
theorem C_iskind (F : Fn K mg "is_kind" s_iskind ["value"]) (Z : Bz mg) (gT_KINDS : ∃ pa, (∃ u, mg "KINDS" = some u ∧ RelV (.ref pa) u) ∧ ∀ H, SqT K H pa kindsV) : CalK P w K mg base 1 "is_kind" ["value"] spKind := by
  have S := sc_iskind
  obtain ⟨pa, g_KINDS, gp⟩ := gT_KINDS
  refine F.calK S (fun vs H Q E h => ?_) (fun f cdv A' outer s H vs Q E hr h => ?_)
  · obtain ⟨M, v, d, rfl, _⟩ := h; rfl
  · obtain ⟨M, v, d, rfl, hv, q⟩ := h
    refine ⟨_, (pss_one (ps_ret (pe_and (pe_callB call_isi (by rfl) Z.isinstance (by decide +kernel) (pa_cons (pv 0) (pa_cons (pe_bltn (v := .ty "str") (by rfl) Z.str (by decide +kernel) rfl) pa_nil))) (pe_one (pe_cmpR op_in_seq (pv 0) (pe_gc (by rfl) g_KINDS) (by rfl)))))), ?_⟩
    try dsimp only [cxOf, Cx.nox, Cx.wish]
    walk_at "w"
    refine r_isiStr hv ?_
    walk_at "w"
    refine if_by (fun h => ?_) (fun h => ?_)
    · cases hv with
      | str x =>
        walk_at "w"
        exact r_in (.inr (gp _)) rfl (by rfl) q
      | _ => cases h
    · have e : isKindD d = false := by cases d <;> simp [isStr, isKindD] at h ⊢
      rw [e] at q; exact q
abbrev s_arekinds : Stmt := topS 17
theorem sc_arekinds : FnScope ["value", "one"] ["value"] (defScope s_arekinds) := ⟨rfl, rfl, rfl, by decide +kernel, rfl, by decide +kernel, by decide +kernel⟩
theorem C_arekinds (F : Fn K mg "are_kinds" s_arekinds ["value"]) (Z : Bz mg) (g_MOST_KINDS : ∃ u, mg "MOST_KINDS" = some u ∧ RelV (.int 20) u) (CK : Cal P w K mg base 1 "is_kind" spKind) : CalK P w K mg base 2 "are_kinds" ["value"] spKinds := by
  have S := sc_arekinds
  refine F.calK S (fun vs H Q E h => ?_) (fun f cdv A' outer s H vs Q E hr h => ?_)
  · obtain ⟨M, v, d, rfl, _⟩ := h; rfl
  · obtain ⟨M, v, d, rfl, hv, q⟩ := h
    refine ⟨_, (pss_one (ps_ret (pe_and (pe_callB call_isi (by rfl) Z.isinstance (by decide +kernel) (pa_cons (pv 0) (pa_cons (pe_bltn (v := .ty "tuple") (by rfl) Z.tuple (by decide +kernel) rfl) pa_nil))) (pe_and (pe_cmpR op_le (pe_callB (cr_len) (by rfl) Z.len (by decide +kernel) (pa_cons (pv 0) pa_nil)) (pe_gc (by rfl) g_MOST_KINDS) (nomark _)) (pe_one (pe_callB (cr_all rfl) (by rfl) Z.all (by decide +kernel) (pa_cons (pe_lc (own := [("one", 1)]) (g := (gName 1)) (tt := tYes) rfl S.nd (pi_tup (pv 0)) (blkOk_by (N := ["value", "one"]) (sc := defScope s_arekinds) (by decide +kernel)) (fun _ _ _ _ _ => (pg_name (i := 1) S.nd rfl (Or.inl rfl))) (fun _ _ _ _ _ => pts_nil) (fun _ _ _ _ _ => (pe_c0 CK hr (by omega) (by rfl) (pa_cons (pv 1) pa_nil)))) pa_nil))))))), ?_⟩
    try dsimp only [cxOf, Cx.nox, Cx.wish]
    walk_at "w"
    refine r_isiTup hv ?_
    walk_at "w"
    refine if_by (fun h => ?_) (fun h => ?_)
    · obtain ⟨ds, rfl⟩ : ∃ ds, d = .tuple ds := by cases d <;> simp [isTup] at h ⊢
      obtain ⟨a, xs, rfl, ha, hl, ht⟩ := hv.tup_inv
      walk_at "w"
      refine r_len (.inr (.of ha)) rfl ?_
      walk_at "w"
      refine if_by (fun h => ?_) (fun h => ?_)
      · have hn : ds.length ≤ 20 := by have h' := of_decide_eq_true h; omega
        walk_at "w"
        refine k_lcT (.of ha) (lcT (xs := xs) (fun i acc D H' => Ex H H' ∧ acc = ((ds.take i).map isKindD).map V.bl) (fun D H2 _ e _ => ⟨e, rfl⟩) (fun i acc D H' _ p => .of (p.1 _ _ ha)) (fun i x acc D H' hx hlt hD hacc p => ?_) (fun acc D H' _ hD hacc p => ?_))
        · obtain ⟨e, rfl⟩ := p
          obtain ⟨y, hy⟩ := get_of_len hl hx
          have hi : i < ds.length := (List.getElem?_eq_some_iff.mp hy).1
          walk_at "w"
          refine ⟨M, x, y, rfl, (ht i x y hx hy).ex e, ?_⟩
          refine k_lc hacc hlt (by omega) fun H5 h5 k5 => ⟨e.mut hD k5, ?_⟩
          rw [take_map_more hy, List.map_append]; rfl
        · obtain ⟨e, rfl⟩ := p
          rw [hl, List.take_length] at hacc
          refine r_all hacc ?_
          have q' := q H' e
          rw [show areKindsD (.tuple ds) = (ds.map isKindD).all id by simp [areKindsD, hn, List.all_map]] at q'
          exact q'
      · have e : areKindsD (.tuple ds) = false := by
          have h' : ¬ ((xs.length : Int) ≤ 20) := of_decide_eq_false (by simpa using h)
          have hn : ¬ ds.length ≤ 20 := by omega
          simp [areKindsD, hn]
        have q' := q H (fun _ _ h => h)
        rw [e] at q'; exact q'
    · have e : areKindsD d = false := by cases d <;> simp [isTup, areKindsD] at h ⊢
      have q' := q H (fun _ _ h => h)
      rw [e] at q'; exact q'
end
end BkL
end
section
namespace BkL
open PySem PySem.Spec L2 BkG TL
local macro_rules | `(tactic| walk_at "w1") => `(tactic| first
  | with_reducible refine w_seq ?_ | with_reducible refine w_set ?_ | with_reducible refine w_ret ?_ | with_reducible refine w_drop ?_ | with_reducible refine w_ifS ?_
  | with_reducible refine w_next ?_ | with_reducible refine w_c ?_ | ((with_reducible refine' w_var ?hv ?_); (case hv => rfl)) | with_reducible refine w_op ?_ | with_reducible refine w_cons ?_ | with_reducible refine w_nil ?_
  | with_reducible refine w_cb ?_ | with_reducible refine w_call ?_ | with_reducible refine w_tup ?_ | with_reducible refine w_lst ?_ | with_reducible refine w_bm ?_ | with_reducible refine w_bm0 ?_ | with_reducible refine w_un ?_
  | with_reducible refine w_test ?_ | with_reducible refine w_B ?_ | with_reducible refine k_B ?_ | with_reducible refine w_and ?_ | with_reducible refine w_or ?_ | with_reducible refine w_not ?_ | with_reducible refine w_if ?_
  | with_reducible refine w_andV ?_ | with_reducible refine w_orV ?_ | with_reducible refine w_notV ?_ | with_reducible refine k_andV ?_ | with_reducible refine k_orV ?_ | with_reducible refine k_notV ?_
  | with_reducible refine w_chain ?_ | with_reducible refine ex_bl ?_ | with_reducible refine w_isN ?_ | with_reducible refine w_notN ?_ | with_reducible refine w_yes ?_
  | with_reducible refine r_I0 ?_ | with_reducible refine r_U ?_ | with_reducible refine r_eqI ?_ | with_reducible refine r_neI ?_ | with_reducible refine r_eqS ?_ | with_reducible refine r_neS ?_ | with_reducible refine r_eqB ?_ | with_reducible refine r_neB ?_
  | with_reducible refine r_abs ?_ | with_reducible refine r_int ?_ | with_reducible refine r_intB ?_
  | with_reducible refine w_sl ?_ | with_reducible refine w_nop ?_ | with_reducible refine w_part ?_ | with_reducible refine k_part ?_ | with_reducible refine w_revL ?_
  | with_reducible refine w_asg ?_ | with_reducible refine w_gname ?_ | with_reducible refine w_gsub ?_ | with_reducible refine w_gnil ?_ | with_reducible refine w_gcons ?_ | with_reducible refine w_retN ?_ | with_reducible refine w_brk ?_ | with_reducible refine w_cont ?_
  | with_reducible refine w_par ?_ | with_reducible refine w_par3 ?_ | with_reducible refine par_ok ?_ | with_reducible refine par_ok3 ?_ | ((with_reducible refine' w_aug ?hv ?_); (case hv => rfl)) | with_reducible refine i_I ?_
  | with_reducible refine w_forL ?_ | with_reducible refine w_forT ?_ | with_reducible refine w_forR1 ?_ | with_reducible refine w_forE ?_ | with_reducible refine w_lcL ?_ | with_reducible refine w_lcT ?_ | with_reducible refine w_lcR ?_
  | ((with_reducible refine a_tup ?hz ?_); (case hz => exact Nat.le_of_ble_eq_true rfl); intro _ _ _ _ _) | ((with_reducible refine a_lst ?hz ?_); (case hz => exact Nat.le_of_ble_eq_true rfl); intro _ _ _ _ _)
  | ((with_reducible refine k_turn1 ?hw ?_); (case hw => rfl)) | ((with_reducible refine k_turn ?hw ?_); (case hw => rfl)) | with_reducible refine r_isV ?_ | with_reducible refine r_isNotV ?_ | with_reducible refine r_isN ?_ | with_reducible refine r_notN ?_ | with_reducible refine w_lcZ ?_
  | ((with_reducible refine r_I ?hc ?_); (case hc => first | decide | assumption))
  | with_reducible refine w_forET ?_
  | ((with_reducible refine w_dnewK ?_); intro _ _ _ _ _) | with_reducible refine w_dput ?_ | with_reducible refine w_lstRg ?_ | with_reducible refine w_lstZip ?_ | with_reducible refine w_callK ?_
  | (with_reducible refine if_pos' ?_) | (with_reducible refine if_neg' ?_))
local macro_rules | `(tactic| walk_at "w") => `(tactic| repeat (walk_at "w1"))

section
variable {P : Program} {w : World} {K : PySem.W.Frag} {mg : Str → Option Value} {base : Heap}
abbrev s_partat : Stmt := topS 54
theorem sc_partat : FnScope ["value", "way", "at"] ["value", "way"] (defScope s_partat) := ⟨rfl, rfl, rfl, by decide +kernel, rfl, by decide +kernel, by decide +kernel⟩
theorem C_partat (F : Fn K mg "_law_part_at" s_partat ["value", "way"]) (Z : Bz mg) : Cal P w K mg base 1 "_law_part_at" spPartAt := by
  have S := sc_partat
  refine F.cal S (fun vs H Q E h => ?_) (fun f cdv A' outer s H vs Q E hr h => ?_)
  · obtain ⟨M, v, d, pw, ws, rfl, _⟩ := h; rfl
  · obtain ⟨M, v, d, pw, ws, rfl, hv, hw, hok, q⟩ := h
    refine ⟨_, (pss_cons (ps_for PassesOwn.never rfl (pi_tup (pv 1)) (pg_name (i := 2) S.nd rfl (Or.inl rfl)) (pss_one (ps_set (i := 0) S.nd rfl (Or.inl rfl) (pe_ix ix_tup (pv 0) (pv 2) (fun _ _ => rfl)))))
      (pss_one (ps_ret (pv 0)))), ?_⟩
    try dsimp only [cxOf, Cx.nox, Cx.wish]
    walk_at "w"
    refine k_forT (.of hw) (fun i σ' H' => H' = H ∧ ∃ v' d' z2, σ' = [some v', some (.ref pw), z2] ∧ Dv M H v' d' ∧ wayOk d' (ws.drop i) ∧ partD d' (ws.drop i) = partD d ws) ⟨rfl, v, d, none, rfl, hv, hok, rfl⟩ (fun i σ' H' _ p => by rw [p.1]; exact .of hw) (fun i x σ' H' hx p => ?_) (fun σ' H' p => ?_)
    · obtain ⟨rfl, v', d', z2, rfl, hv', hok', hp'⟩ := p
      obtain ⟨k, hk, rfl⟩ := map_some hx
      have hi := (List.getElem?_eq_some_iff.mp hk).1
      have hdr : ws.drop i = k :: ws.drop (i + 1) := by
        rw [List.drop_eq_getElem_cons hi]
        congr 1
        have := (List.getElem?_eq_some_iff.mp hk).2
        exact this
      rw [hdr] at hok' hp'
      obtain ⟨ds, rfl⟩ := hok'.tup
      obtain ⟨e, he, hok2⟩ := hok'
      rw [partD_cons he] at hp'
      obtain ⟨a, xs, rfl, ha, hrel⟩ := Rel.of_tup hv'
      obtain ⟨y, hy⟩ := get_of_len hrel.1.symm he
      walk_at "w"
      refine r_ixT (.of ha) (v := y) (atI_nn rfl hy) ?_
      exact ⟨rfl, y, e, some (.int (k : Int)), rfl, hrel.2 k y e hy he, hok2, hp'⟩
    · obtain ⟨rfl, v', d', z2, rfl, hv', hok', hp'⟩ := p
      rw [show (wayV ws).length = ws.length by simp [wayV], List.drop_length, partD_nil] at hp'
      walk_at "w"
      rw [hp'] at hv'
      exact q v' hv'
abbrev s_spots : Stmt := topS 52
theorem sc_spots : FnScope ["value", "found", "at", "part", "way"] ["value"] (defScope s_spots) := ⟨rfl, rfl, rfl, by decide +kernel, rfl, by decide +kernel, by decide +kernel⟩
theorem C_spots (F : Fn K mg "_law_spots" s_spots ["value"]) (Z : Bz mg) (n : Nat) : Cal P w K mg base (n + 1) "_law_spots" (spSpots n) := by
  induction n with
  | zero => exact F.cal sc_spots (fun vs H Q E h => h.elim) (fun f cdv A' outer s H vs Q E hr h => h.elim)
  | succ n ih =>
  have S := sc_spots
  refine F.cal S (fun vs H Q E h => ?_) (fun f cdv A' outer s H vs Q E hr h => ?_)
  · obtain ⟨M, v, ds, rfl, _⟩ := h; rfl
  · obtain ⟨M, v, ds, rfl, hv, hf, hn63, htu, q⟩ := h
    refine ⟨_, (pss_cons (ps_set (i := 1) S.nd rfl (Or.inl rfl) (pe_lst (pa_cons (pe_tup pa_nil) pa_nil)))
      (pss_cons (ps_for PassesOwn.never rfl (pi_enumT (by rfl) Z.enumerate (pa_cons (pv 0) pa_nil)) (pg_tup rfl (pgs_cons (pg_name (i := 2) S.nd rfl (Or.inr rfl)) (pgs_cons (pg_name (i := 3) S.nd rfl (Or.inl rfl)) pgs_nil))) (pss_one (ps_if (pt_val (pe_callB call_isi (by rfl) Z.isinstance (by decide +kernel) (pa_cons (pv 3) (pa_cons (pe_bltn (v := .ty "tuple") (by rfl) Z.tuple (by decide +kernel) rfl) pa_nil)))) (pss_one (ps_set (i := 1) S.nd rfl (Or.inl rfl) (pe_op op_cat (pv 1) (pe_lc (own := [("way", 4)]) (g := (gName 4)) (tt := tYes) rfl S.nd (pi_list (pe_c0 ih hr (by omega) (by rfl) (pa_cons (pv 3) pa_nil))) (blkOk_by (N := ["value", "found", "at", "part", "way"]) (sc := defScope s_spots) (by decide +kernel)) (fun _ _ _ _ _ => (pg_name (i := 4) S.nd rfl (Or.inl rfl))) (fun _ _ _ _ _ => pts_nil) (fun _ _ _ _ _ => (pe_op (show OpR _ (binaryOp .Add) (rCatA K) from op_catA) (pe_tup (pa_cons (pv 2) pa_nil)) (pv 4))))))) pss_nil)))
      (pss_one (ps_ret (pv 1))))), ?_⟩
    try dsimp only [cxOf, Cx.nox, Cx.wish]
    obtain ⟨a, xs, rfl, ha, hrel⟩ := Rel.of_tup hv
    obtain ⟨m, rfl⟩ := fine.pos hf
    have htu' : 1 + tupsAll ds ≤ 5000 := htu
    have hdl := fine.len hf
    walk_at "w"
    rename_i p0 H0 hp0 e0 h0 p1 H1 hp1 e1 h1
    have e01 := e0.trans e1
    have h01 := e1 _ _ h0
    refine a_enumT (.of (e01 _ _ ha)) (fun i σ' H' => ∃ (pf : Addr) (pts : List Addr) (z2 z3 z4 : Option V), σ' = [some (.ref a), some (.ref pf), z2, z3, z4] ∧ Ex H1 H' ∧ H pf = none ∧ H' pf = some (.lst (pts.map V.ref)) ∧ pts.length = 1 + tupsAll (ds.take i) ∧ Ways H' (.tuple ds) pts)
      ⟨p1, [p0], none, none, none, rfl, fun _ _ h => h, e0.fresh hp1, h1, by simp [tupsAll], fun pt hp => by rw [List.mem_singleton.mp hp]; exact ⟨[], h01, trivial, Nat.zero_le _⟩⟩ (fun i σ' H' _ p => by obtain ⟨pf, pts, z2, z3, z4, _, e, _⟩ := p; exact .of (e _ _ (e01 _ _ ha))) (fun i x σ' H' T H2 hxi p hT e2 h2 => ?_) (fun σ' H' p => ?_)
    rotate_left
    · obtain ⟨pf, pts, z2, z3, z4, rfl, e, hpf, hl, hlen, hw⟩ := p
      rw [hrel.1, List.take_length] at hlen
      walk_at "w"
      exact q pf pts H' (e01.trans e) hl hlen hw hpf
    obtain ⟨pf, pts, z2, z3, z4, rfl, e, hpf, hl, hlen, hw⟩ := p
    obtain ⟨d, hd⟩ := get_of_len hrel.1 hxi
    have eA := (e01.trans e).trans e2
    have dx : Dv M H2 x d := (hrel.2 i x d hxi hd).ex eA
    have fd : fine m d = true := fine.tup_in hf (List.mem_of_getElem? hd)
    have htk := tupsAll_take hd
    refine w_gtup (.of h2) rfl ?_
    refine w_gcons (w_gname (w_gcons (w_gname (w_gnil ?_))))
    walk_at "w"
    refine r_isiTup dx ?_
    walk_at "w"
    refine if_by (fun h => ?_) (fun h => ?_)
    rotate_left
    · walk_at "w"
      have ht : tupsD d = 0 := by cases d <;> first | rfl | (simp [isTup] at h; done)
      exact ⟨pf, pts, _, _, _, rfl, e.trans e2, hpf, e2 _ _ hl, by rw [htk, ht, hlen, Nat.add_zero], hw.ex e2⟩
    obtain ⟨es, rfl⟩ : ∃ es, d = .tuple es := by cases d <;> simp [isTup] at h ⊢
    have hte : tupsD (.tuple es) ≤ 5000 := by
      have := tupsD_in (List.mem_of_getElem? hd)
      omega
    walk_at "w"
    refine ⟨M, x, es, rfl, dx, fd, by omega, hte, fun pg gts H3 e3 h3 hgl hgw hpg => ?_⟩
    have hgl2 := tupsD_in (List.mem_of_getElem? hd)
    refine k_lcL (.of h3) (lcL (xs := gts.map V.ref) (fun j acc D H' => Ex H3 H' ∧ ∃ nts : List Addr, acc = nts.map V.ref ∧ nts.length = j ∧ Ways H' (.tuple ds) nts ∧ ∀ pt ∈ nts, pt ≠ D) (fun D H2 _ e _ => ⟨e, [], rfl, rfl, (fun pt h => absurd h (List.not_mem_nil)), (fun pt h => absurd h (List.not_mem_nil))⟩) (fun j acc D H' _ p => .of (p.1 _ _ h3)) (fun j y acc D H' hy hlt hD hacc p => ?_) (fun acc l4 H4 _ hl4 h4 p => ?_))
    · obtain ⟨e4, nts, rfl, hnl, hnw, hnd⟩ := p
      obtain ⟨pt, hpt, rfl⟩ := map_some hy
      have hj := (List.getElem?_eq_some_iff.mp hpt).1
      obtain ⟨ws, hws, hwok, hwl⟩ := hgw pt (List.mem_of_getElem? hpt)
      walk_at "w"
      rename_i pa Ha hpa ea hha
      refine r_catT hha (ea _ _ (e4 _ _ hws)) (by simp [wayV]; omega) fun pn Hn en hhn => ?_
      have hne : pn ≠ D := fun z => by
        have := en _ _ (ea _ _ hacc)
        rw [← z, hhn] at this; cases this
      refine k_lc (en _ _ (ea _ _ hacc)) hlt (by omega) fun H9 h9 k9 => ⟨Ex.mut ((e4.trans ea).trans en) hD k9, nts ++ [pn], by simp, by simp [hnl], ?_, ?_⟩
      · intro q0 hq0
        rcases List.mem_append.mp hq0 with hq0 | hq0
        · obtain ⟨us, hu1, hu2⟩ := hnw q0 hq0
          exact ⟨us, k9 _ _ (hnd q0 hq0) (en _ _ (ea _ _ hu1)), hu2⟩
        · rw [List.mem_singleton.mp hq0]
          refine ⟨i :: ws, ?_, wayOk.cons hd hwok, ?_⟩
          · rw [k9 _ _ hne hhn]; rfl
          · have := wayOk.len (nice.ok (fine.nice fd)) hwok
            rw [List.length_cons]; omega
      · intro q0 hq0
        rcases List.mem_append.mp hq0 with hq0 | hq0
        · exact hnd q0 hq0
        · rw [List.mem_singleton.mp hq0]; exact hne
    obtain ⟨e4, nts, rfl, hnl, hnw, _⟩ := p
    rw [List.length_map] at hnl
    have e34 := e3.trans e4
    have hle := tupsAll_le ds (i + 1)
    refine r_cat (e34 _ _ (e2 _ _ hl)) h4 (by simp; omega) fun p5 H5 hp5 e5 h5 => ?_
    walk_at "w"
    refine ⟨p5, pts ++ nts, _, _, _, rfl, ((e.trans e2).trans e34).trans e5, ?_, ?_, ?_, ?_⟩
    · exact Ex.fresh (((e01.trans e).trans e2).trans e34) hp5
    · rw [h5, List.map_append]
    · rw [List.length_append, hlen, hnl, hgl, htk]; omega
    · exact (((hw.ex e2).ex e34).ex e5).append (hnw.ex e5)
abbrev s_putat : Stmt := topS 53
theorem sc_putat : FnScope ["value", "way", "part"] ["value", "way", "part"] (defScope s_putat) := ⟨rfl, rfl, rfl, by decide +kernel, rfl, by decide +kernel, by decide +kernel⟩
theorem C_putat (F : Fn K mg "_law_put_at" s_putat ["value", "way", "part"]) (Z : Bz mg) (n : Nat) : Cal P w K mg base (n + 1) "_law_put_at" (spPutAt n) := by
  induction n with
  | zero => exact F.cal sc_putat (fun vs H Q E h => h.elim) (fun f cdv A' outer s H vs Q E hr h => h.elim)
  | succ n ih =>
  have S := sc_putat
  refine F.cal S (fun vs H Q E h => ?_) (fun f cdv A' outer s H vs Q E hr h => ?_)
  · obtain ⟨M, v, x, d, e, pw, ws, rfl, _⟩ := h; rfl
  · obtain ⟨M, v, x, d, e, pw, ws, rfl, hv, hf, hx, hw, hok, hn, q⟩ := h
    refine ⟨_, (pss_cons (ps_if (pt_cmpR (op_eqD hr.units) (pv 1) (pe_tup pa_nil) (nomark _)) (pss_one (ps_ret (pv 2))) pss_nil)
      (pss_one (ps_ret (pe_op op_catA (pe_op op_catA (pe_slice sl_tupA (pv 0) po_none (po_some (pe_ix ix_tup (pv 1) pe_int (fun _ _ => rfl)))) (pe_tup (pa_cons (pe_c0 ih hr (by omega) (by rfl) (pa_cons (pe_ix ix_tup (pv 0) (pe_ix ix_tup (pv 1) pe_int (fun _ _ => rfl)) (fun _ _ => rfl)) (pa_cons (pe_slice sl_tupA (pv 1) (po_some pe_int) po_none) (pa_cons (pv 2) pa_nil)))) pa_nil))) (pe_slice sl_tupA (pv 0) (po_some (pe_op op_add (pe_ix ix_tup (pv 1) pe_int (fun _ _ => rfl)) pe_int)) po_none))))), ?_⟩
    try dsimp only [cxOf, Cx.nox, Cx.wish]
    walk_at "w"
    rename_i p0 H0 hp0 e0 h0
    have hwl : ws.length ≤ 62 := by
      have := wayOk.len (nice.ok (fine.nice hf)) hok
      omega
    refine r_eqD2' (dv_way (M := M) (e0 _ _ hw)) (dv_nilT h0) (nice_way (by omega)) (by decide +kernel) ?_
    rw [way_empty]
    walk_at "w"
    rcases ws with _ | ⟨a, ws⟩
    · refine if_dt (by rfl) ?_
      walk_at "w"
      exact q x H0 e0 (by rw [putD_nil]; exact hx.ex e0)
    refine if_df (by rfl) ?_
    obtain ⟨ds, rfl⟩ := hok.tup
    obtain ⟨d1, hd1, hok1⟩ := hok
    obtain ⟨v0, xs, rfl, ha, hrel⟩ := Rel.of_tup hv
    obtain ⟨y, hy⟩ := get_of_len hrel.1.symm hd1
    obtain ⟨m, hm⟩ := fine.pos hf
    have hf1 : fine 63 d1 = true := by rw [hm] at hf; exact fine.mono (fine.tup_in hf (List.mem_of_getElem? hd1)) (by omega)
    have hdl := fine.len hf
    have hal := (List.getElem?_eq_some_iff.mp hy).1
    have hrl := hrel.1
    walk_at "w"
    refine r_ixT (.of (e0 _ _ hw)) (v := .int (a : Int)) (by rw [show ((0 : Int)) = ((0 : Nat) : Int) from rfl]; exact atI_nat rfl) ?_
    walk_at "w"
    refine r_slT (e0 _ _ ha) fun p1 H1 e1 h1 => ?_
    walk_at "w"
    refine r_ixT (.of (e1 _ _ (e0 _ _ hw))) (v := .int (a : Int)) (by rw [show ((0 : Int)) = ((0 : Nat) : Int) from rfl]; exact atI_nat rfl) ?_
    walk_at "w"
    refine r_ixT (.of (e1 _ _ (e0 _ _ ha))) (v := y) (atI_nn rfl hy) ?_
    walk_at "w"
    refine r_slT (e1 _ _ (e0 _ _ hw)) fun p2 H2 e2 h2 => ?_
    walk_at "w"
    have e02 := (e0.trans e1).trans e2
    rw [List.length_cons] at hn
    obtain ⟨k, rfl⟩ : ∃ k, n = k + 1 := ⟨n - 1, by omega⟩
    refine ⟨M, y, x, d1, e, p2, ws, rfl, (hrel.2 a y d1 hy hd1).ex e02, hf1, hx.ex e02, ?_, hok1, by omega, fun z H3 e3 hz => ?_⟩
    · rw [h2, show ((1 : Int)) = ((1 : Nat) : Int) from rfl, cut_from (by simp [wayV])]; rfl
    walk_at "w"
    rename_i p4 H4 hp4 e4 h4
    rw [cut_to] at h1
    have e24 := (e2.trans e3).trans e4
    refine r_catT (e24 _ _ h1) h4 (by simp; omega) fun p5 H5 e5 h5 => ?_
    walk_at "w"
    have e05 := (e0.trans e1).trans (e24.trans e5)
    refine r_ixT (.of (e05 _ _ hw)) (v := .int (a : Int)) (by rw [show ((0 : Int)) = ((0 : Nat) : Int) from rfl]; exact atI_nat rfl) ?_
    walk_at "w"
    refine r_slT (e05 _ _ ha) fun p6 H6 e6 h6 => ?_
    rw [show ((a : Int) + 1) = ((a + 1 : Nat) : Int) by omega, cut_from (by omega)] at h6
    walk_at "w"
    refine r_catT (e6 _ _ h5) h6 (by simp; omega) fun p7 H7 e7 h7 => ?_
    have eF := e05.trans (e6.trans e7)
    refine q _ H7 eF ?_
    rw [putD_cons hd1]
    refine Rel.tup ?_ h7
    have r0 := hrel.ex eF
    have := Rel.append (Rel.append (r0.take a) (Rel.one (hz.ex (((e4.trans e5).trans e6).trans e7)))) (r0.drop (a + 1))
    rw [List.append_assoc, List.append_assoc] at this
    rw [List.append_assoc]
    exact this
end
end BkL
end
section
namespace BkL
open PySem PySem.Spec L2 BkG TL
local macro_rules | `(tactic| walk_at "w1") => `(tactic| first
  | with_reducible refine w_seq ?_ | with_reducible refine w_set ?_ | with_reducible refine w_ret ?_ | with_reducible refine w_drop ?_ | with_reducible refine w_ifS ?_
  | with_reducible refine w_next ?_ | with_reducible refine w_c ?_ | ((with_reducible refine' w_var ?hv ?_); (case hv => rfl)) | with_reducible refine w_op ?_ | with_reducible refine w_cons ?_ | with_reducible refine w_nil ?_
  | with_reducible refine w_cb ?_ | with_reducible refine w_call ?_ | with_reducible refine w_tup ?_ | with_reducible refine w_lst ?_ | with_reducible refine w_bm ?_ | with_reducible refine w_bm0 ?_ | with_reducible refine w_un ?_
  | with_reducible refine w_test ?_ | with_reducible refine w_B ?_ | with_reducible refine k_B ?_ | with_reducible refine w_and ?_ | with_reducible refine w_or ?_ | with_reducible refine w_not ?_ | with_reducible refine w_if ?_
  | with_reducible refine w_andV ?_ | with_reducible refine w_orV ?_ | with_reducible refine w_notV ?_ | with_reducible refine k_andV ?_ | with_reducible refine k_orV ?_ | with_reducible refine k_notV ?_
  | with_reducible refine w_chain ?_ | with_reducible refine ex_bl ?_ | with_reducible refine w_isN ?_ | with_reducible refine w_notN ?_ | with_reducible refine w_yes ?_
  | with_reducible refine r_I0 ?_ | with_reducible refine r_U ?_ | with_reducible refine r_eqI ?_ | with_reducible refine r_neI ?_ | with_reducible refine r_eqS ?_ | with_reducible refine r_neS ?_ | with_reducible refine r_eqB ?_ | with_reducible refine r_neB ?_
  | with_reducible refine r_abs ?_ | with_reducible refine r_int ?_ | with_reducible refine r_intB ?_
  | with_reducible refine w_sl ?_ | with_reducible refine w_nop ?_ | with_reducible refine w_part ?_ | with_reducible refine k_part ?_ | with_reducible refine w_revL ?_
  | with_reducible refine w_asg ?_ | with_reducible refine w_gname ?_ | with_reducible refine w_gsub ?_ | with_reducible refine w_gnil ?_ | with_reducible refine w_gcons ?_ | with_reducible refine w_retN ?_ | with_reducible refine w_brk ?_ | with_reducible refine w_cont ?_
  | with_reducible refine w_par ?_ | with_reducible refine w_par3 ?_ | with_reducible refine par_ok ?_ | with_reducible refine par_ok3 ?_ | ((with_reducible refine' w_aug ?hv ?_); (case hv => rfl)) | with_reducible refine i_I ?_
  | with_reducible refine w_forL ?_ | with_reducible refine w_forT ?_ | with_reducible refine w_forR1 ?_ | with_reducible refine w_forE ?_ | with_reducible refine w_lcL ?_ | with_reducible refine w_lcT ?_ | with_reducible refine w_lcR ?_
  | ((with_reducible refine a_tup ?hz ?_); (case hz => exact Nat.le_of_ble_eq_true rfl); intro _ _ _ _ _) | ((with_reducible refine a_lst ?hz ?_); (case hz => exact Nat.le_of_ble_eq_true rfl); intro _ _ _ _ _)
  | ((with_reducible refine k_turn1 ?hw ?_); (case hw => rfl)) | ((with_reducible refine k_turn ?hw ?_); (case hw => rfl)) | with_reducible refine r_isV ?_ | with_reducible refine r_isNotV ?_ | with_reducible refine r_isN ?_ | with_reducible refine r_notN ?_ | with_reducible refine w_lcZ ?_
  | ((with_reducible refine r_I ?hc ?_); (case hc => first | decide | assumption))
  | with_reducible refine w_forET ?_
  | ((with_reducible refine w_dnewK ?_); intro _ _ _ _ _) | with_reducible refine w_dput ?_ | with_reducible refine w_lstRg ?_ | with_reducible refine w_lstZip ?_ | with_reducible refine w_callK ?_
  | (with_reducible refine if_pos' ?_) | (with_reducible refine if_neg' ?_))
local macro_rules | `(tactic| walk_at "w") => `(tactic| repeat (walk_at "w1"))

section
variable {P : Program} {w : World} {K : PySem.W.Frag} {mg : Str → Option Value} {base : Heap}
abbrev s_nearX : Stmt := topS 55
theorem sc_nearX : FnScope ["deal", "value", "way", "part"] ["deal", "value"] (defScope s_nearX) := ⟨rfl, rfl, rfl, by decide +kernel, rfl, by decide +kernel, by decide +kernel⟩
theorem C_nearX (F : Fn K mg "_law_near" s_nearX ["deal", "value"]) (Z : Bz mg) (CO : Cal P w K mg base 2 "_law_of" spOf) (CSp : Cal P w K mg base 64 "_law_spots" (spSpots 63)) (CPa : Cal P w K mg base 1 "_law_part_at" spPartAt) (CPu : Cal P w K mg base 64 "_law_put_at" (spPutAt 63)) :
    Cal P w K mg base 65 "_law_near" spNearX := by
  have S := sc_nearX
  refine F.cal S (fun vs H Q E h => ?_) (fun f cdv A' outer s H vs Q E hr h => ?_)
  · obtain ⟨D, L, M, v, d, n, b, rfl, _⟩ := h; rfl
  · obtain ⟨D, L, M, v, d, n, b, rfl, hM, hv, hf, hn, hth, hb, htu, hd, q⟩ := h
    refine ⟨_, (pss_cons (ps_if (PW.pt (pw_or (pt_not (pt_val (pe_callB call_isi (by rfl) Z.isinstance (by decide +kernel) (pa_cons (pv 1) (pa_cons (pe_bltn (v := .ty "tuple") (by rfl) Z.tuple (by decide +kernel) rfl) pa_nil))))) (pw_or1 (pt_cmpR (op_eqD hr.units) (pv 1) (pe_tup pa_nil) (nomark _))))) (pss_one (ps_ret (pv 1))) pss_nil)
      (pss_cons (ps_set (i := 2) S.nd rfl (Or.inl rfl) (pe_c0 CO hr (by omega) (by rfl) (pa_cons (pv 0) (pa_cons (pe_c0 CSp hr (by omega) (by rfl) (pa_cons (pv 1) pa_nil)) pa_nil))))
      (pss_cons (ps_set (i := 3) S.nd rfl (Or.inl rfl) (pe_c0 CPa hr (by omega) (by rfl) (pa_cons (pv 1) (pa_cons (pv 2) pa_nil))))
      (pss_one (ps_ret (pe_c0 CPu hr (by omega) (by rfl) (pa_cons (pv 1) (pa_cons (pv 2) (pa_cons (pe_c0 CO hr (by omega) (by rfl) (pa_cons (pv 0) (pa_cons (pe_lst (pa_cons (pe_callTy (call_list_of) (by rfl) Z.list (by decide +kernel) (pa_cons (pv 3) pa_nil)) (pa_cons (pe_op op_catA (pv 3) (pe_tup (pa_cons pe_non pa_nil))) (pa_cons pe_non (pa_cons pe_int (pa_cons pe_str (pa_cons (pe_slice sl_tupA (pv 3) po_none (po_some (pe_un un_neg pe_int))) (pa_cons (pe_op op_catA (pe_op op_catA (pe_slice sl_tupA (pv 3) po_none (po_some pe_int)) (pe_tup (pa_cons pe_bl pa_nil))) (pe_slice sl_tupA (pv 3) (po_some pe_int) po_none)) (pa_cons (pe_op op_catA (pe_op op_catA (pe_slice sl_tupA (pv 3) po_none (po_some pe_int)) (pe_tup (pa_cons pe_str pa_nil))) (pe_slice sl_tupA (pv 3) (po_some pe_int) po_none)) pa_nil))))))))) pa_nil))) pa_nil))))))))), ?_⟩
    try dsimp only [cxOf, Cx.nox, Cx.wish]
    walk_at "w"
    refine r_isiTup hv ?_
    walk_at "w"
    refine if_by (fun h => ?_) (fun h => ?_)
    · walk_at "w"
      exact q v d H hv (.inl rfl) hf (thin_mono (Nat.le_succ b) n d (nice.ok (fine.nice hf)) hth) (Nat.le_refl _) hd (.of fun _ _ h => h)
    obtain ⟨ds, rfl⟩ : ∃ ds, d = .tuple ds := by cases d <;> simp [isTup] at h ⊢
    walk_at "w"
    rename_i p0 H0 hp0 e0 h0
    refine r_eqD2' (hv.ex e0) (dv_nilT h0) (nice.mono (fine.nice hf) (by omega)) (by decide +kernel) ?_
    walk_at "w"
    have d0 := hd.keep e0
    have hM0 : ∀ a ∈ M, H0 a ≠ none := fun a ha => kp_alloc (.of e0) d0 (hM a ha)
    refine if_by (fun h => ?_) (fun h => ?_)
    · walk_at "w"
      exact q v _ H0 (hv.ex e0) (.inl rfl) hf (thin_mono (Nat.le_succ b) n _ (nice.ok (fine.nice hf)) hth) (Nat.le_refl _) d0 (.of e0)
    walk_at "w"
    refine ⟨D :: L :: M, v, ds, rfl, hv.ex e0, fine.mono hf hn, by decide, htu, fun p1 pts H1 e1 h1 hpl hways hp1 => ?_⟩
    walk_at "w"
    have d1 := d0.keep e1
    obtain ⟨n1, n2⟩ := d0.fresh hp1
    have hv1 := (hv.ex e0).ex e1
    have htp : 1 ≤ tupsD (.tuple ds) := by rw [tupsD]; omega
    refine ⟨D, L, p1, _, rfl, d1, h1, n1, n2, by rw [List.length_map]; omega, by rw [List.length_map]; omega, fun i x H2 hx d2 k2 => ?_⟩
    obtain ⟨pt, hpt, rfl⟩ := map_some hx
    obtain ⟨ws, hws, hok, hwl⟩ := hways pt (List.mem_of_getElem? hpt)
    have hws2 := Kt.of_kp k2 d1 _ _ hws
    have hv2 := Dv.kpDL' hv1 k2 d1
    have hM2 : ∀ a ∈ M, H2 a ≠ none := fun a ha => kp_alloc k2 d2 (kp_alloc (.of e1) d1 (hM0 a ha))
    have k02 : Kp [D, L] H H2 := Kp.pre (e0.trans e1) k2
    obtain ⟨es, hes⟩ := part_tup hok
    have pf := part_fine hf hok
    have pth := part_thin hth hok
    have hwn := wayOk.len (nice.ok (fine.nice hf)) hok
    walk_at "w"
    refine ⟨_, v, _, pt, ws, rfl, hv2, hws2, hok, fun v' hv' => ?_⟩
    have put := fun (x : PyData) => put_tups (x := x) hok
    rw [hes] at hv' pf pth
    obtain ⟨a, xs, rfl, ha, hrel⟩ := Rel.of_tup hv'
    have hxl := hrel.1
    have hel := fine.len pf
    walk_at "w"
    refine ⟨a, xs, rfl, .inr (.of ha), fun t1 ht1 => ?_⟩
    have f1 := Ex.new (o := .lst xs) ht1
    have g1 : upd H2 t1 (.lst xs) t1 = _ := upd_same
    generalize upd H2 t1 (.lst xs) = J1 at f1 g1 ⊢
    walk_at "w"
    rename_i t2 J2 ht2 f2 g2
    refine r_catT (f2 _ _ (f1 _ _ ha)) g2 (by simp; omega) fun t3 J3 f3 g3 => ?_
    walk_at "w"
    have E3 := (f1.trans f2).trans f3
    refine r_slT (E3 _ _ ha) fun t4 J4 f4 g4 => ?_
    walk_at "w"
    have E4 := E3.trans f4
    refine r_slT (E4 _ _ ha) fun t5 J5 f5 g5 => ?_
    walk_at "w"
    rename_i t6 J6 ht6 f6 g6
    rw [show ((1 : Int)) = ((1 : Nat) : Int) from rfl, cut_to] at g5
    refine r_catT (f6 _ _ g5) g6 (by simp; omega) fun t7 J7 f7 g7 => ?_
    walk_at "w"
    have E7 := ((E4.trans f5).trans f6).trans f7
    refine r_slT (E7 _ _ ha) fun t8 J8 f8 g8 => ?_
    rw [show ((2 : Int)) = ((2 : Nat) : Int) from rfl, cut_from2] at g8
    walk_at "w"
    refine r_catT (f8 _ _ g7) g8 (by simp; omega) fun t9 J9 f9 g9 => ?_
    walk_at "w"
    have E9 := (E7.trans f8).trans f9
    refine r_slT (E9 _ _ ha) fun s5 I5 b5 c5 => ?_
    walk_at "w"
    rename_i s6 I6 hs6 b6 c6
    rw [show ((1 : Int)) = ((1 : Nat) : Int) from rfl, cut_to] at c5
    refine r_catT (b6 _ _ c5) c6 (by simp; omega) fun s7 I7 b7 c7 => ?_
    walk_at "w"
    have E17 := ((E9.trans b5).trans b6).trans b7
    refine r_slT (E17 _ _ ha) fun s8 I8 b8 c8 => ?_
    rw [show ((2 : Int)) = ((2 : Nat) : Int) from rfl, cut_from2] at c8
    walk_at "w"
    refine r_catT (b8 _ _ c7) c8 (by simp; omega) fun s9 I9 b9 c9 => ?_
    walk_at "w"
    rename_i lp Jl hlp fl gl
    have EL := (((E17.trans b8).trans b9).trans fl)
    have dL := d2.keep EL
    obtain ⟨m1, m2⟩ := (d2.keep ((E17.trans b8).trans b9)).fresh hlp
    walk_at "w"
    refine ⟨D, L, lp, _, rfl, dL, gl, m1, m2, by simp, by simp, fun i x H3 hx d3 k3 => ?_⟩
    have k23 : Kp [D, L] H2 H3 := Kp.pre EL k3
    have hrL := hrel.ex EL
    suffices hs : ∃ dx, Dv (D :: L :: M) Jl x dx ∧ (fine (n - ws.length) dx = true ∧ thinD (b + 1) dx = true ∧ tupsD dx ≤ tupsD (.tuple es)) ∧ nearOf es dx by
      obtain ⟨dx, s1, ⟨s2, s3, s4⟩, s5⟩ := hs
      walk_at "w"
      refine ⟨D :: L :: M, v, x, _, dx, pt, ws, rfl, Dv.kpDL' hv2 k23 d2, fine.mono hf (by omega), Dv.kpDL' s1 k3 dL, Kt.of_kp k23 d2 _ _ hws2, hok, (show ws.length ≤ 62 by omega), fun v' H4 e4 hv4 => ?_⟩
      refine q v' _ H4 hv4 (.inr ⟨ws, es, dx, hok, hes, s5, rfl⟩) (put_fine hf hok s2) (put_thin (thin_mono (Nat.le_succ b) n _ (nice.ok (fine.nice hf)) hth) hok s3) ?_ (d3.keep e4) ((k02.trans k23).ex e4)
      have := put dx
      rw [hes] at this
      omega
    have hm := List.mem_of_getElem? hx
    obtain ⟨m, hm'⟩ : ∃ m, n - ws.length = m + 1 := ⟨n - ws.length - 1, by omega⟩
    simp only [List.mem_cons, List.not_mem_nil, or_false] at hm
    have F9 : Ex J9 Jl := (((((b5.trans b6).trans b7).trans b8).trans b9)).trans fl
    rcases hm with rfl | rfl | rfl | rfl | rfl | rfl | rfl | rfl
    · refine ⟨_, hrL.lst (((((((f2.trans f3).trans f4).trans f5).trans f6).trans f7).trans f8).trans f9 |>.trans F9 |> fun e => e _ _ g1) (fun z => ?_), part_list pf pth, .inl rfl⟩
      obtain ⟨q1, q2⟩ := d2.fresh ht1
      simp only [List.mem_cons] at z
      rcases z with z | z | z
      · exact q1 z
      · exact q2 z
      · exact hM2 _ z ht1
    · exact ⟨_, (hrL.append (Rel.one .non)).tup ((((((f4.trans f5).trans f6).trans f7).trans f8).trans f9 |>.trans F9) _ _ g3), part_more pf pth hb (by decide +kernel) rfl (fun _ => rfl), .inr (.inl rfl)⟩
    · exact ⟨_, .non, ⟨by rw [hm']; rfl, rfl, Nat.zero_le _⟩, .inr (.inr (.inl rfl))⟩
    · exact ⟨_, .int _, ⟨by rw [hm']; rfl, rfl, Nat.zero_le _⟩, .inr (.inr (.inr (.inl rfl)))⟩
    · exact ⟨_, .str _, ⟨fine.mono (n := 0) (by decide +kernel) (Nat.zero_le _), rfl, Nat.zero_le _⟩, .inr (.inr (.inr (.inr (.inl rfl))))⟩
    · obtain ⟨j0, hr⟩ := cut_rel0 hrL (some (-1))
      exact ⟨_, hr.tup ((((((f5.trans f6).trans f7).trans f8).trans f9).trans F9) _ _ g4), (by simpa using sub_props (i := 0) (j := j0) pf pth), .inr (.inr (.inr (.inr (.inr (.inl ⟨j0, rfl⟩)))))⟩
    · exact ⟨_, (((hrL.take 1).append (Rel.one (.bl true))).append (hrL.drop 2)).tup (F9 _ _ g9), part_second pf pth hb (by decide +kernel) rfl (fun _ => rfl), .inr (.inr (.inr (.inr (.inr (.inr (.inl rfl))))))⟩
    · exact ⟨_, (((hrL.take 1).append (Rel.one (.str _))).append (hrL.drop 2)).tup (fl _ _ c9), part_second pf pth hb (by decide +kernel) rfl (fun _ => rfl), .inr (.inr (.inr (.inr (.inr (.inr (.inr rfl))))))⟩
end
end BkL
end
section
namespace BkL
open PySem PySem.Spec L2 BkG TL
local macro_rules | `(tactic| walk_at "w1") => `(tactic| first
  | with_reducible refine w_seq ?_ | with_reducible refine w_set ?_ | with_reducible refine w_ret ?_ | with_reducible refine w_drop ?_ | with_reducible refine w_ifS ?_
  | with_reducible refine w_next ?_ | with_reducible refine w_c ?_ | ((with_reducible refine' w_var ?hv ?_); (case hv => rfl)) | with_reducible refine w_op ?_ | with_reducible refine w_cons ?_ | with_reducible refine w_nil ?_
  | with_reducible refine w_cb ?_ | with_reducible refine w_call ?_ | with_reducible refine w_tup ?_ | with_reducible refine w_lst ?_ | with_reducible refine w_bm ?_ | with_reducible refine w_bm0 ?_ | with_reducible refine w_un ?_
  | with_reducible refine w_test ?_ | with_reducible refine w_B ?_ | with_reducible refine k_B ?_ | with_reducible refine w_and ?_ | with_reducible refine w_or ?_ | with_reducible refine w_not ?_ | with_reducible refine w_if ?_
  | with_reducible refine w_andV ?_ | with_reducible refine w_orV ?_ | with_reducible refine w_notV ?_ | with_reducible refine k_andV ?_ | with_reducible refine k_orV ?_ | with_reducible refine k_notV ?_
  | with_reducible refine w_chain ?_ | with_reducible refine ex_bl ?_ | with_reducible refine w_isN ?_ | with_reducible refine w_notN ?_ | with_reducible refine w_yes ?_
  | with_reducible refine r_I0 ?_ | with_reducible refine r_U ?_ | with_reducible refine r_eqI ?_ | with_reducible refine r_neI ?_ | with_reducible refine r_eqS ?_ | with_reducible refine r_neS ?_ | with_reducible refine r_eqB ?_ | with_reducible refine r_neB ?_
  | with_reducible refine r_abs ?_ | with_reducible refine r_int ?_ | with_reducible refine r_intB ?_
  | with_reducible refine w_sl ?_ | with_reducible refine w_nop ?_ | with_reducible refine w_part ?_ | with_reducible refine k_part ?_ | with_reducible refine w_revL ?_
  | with_reducible refine w_asg ?_ | with_reducible refine w_gname ?_ | with_reducible refine w_gsub ?_ | with_reducible refine w_gnil ?_ | with_reducible refine w_gcons ?_ | with_reducible refine w_retN ?_ | with_reducible refine w_brk ?_ | with_reducible refine w_cont ?_
  | with_reducible refine w_par ?_ | with_reducible refine w_par3 ?_ | with_reducible refine par_ok ?_ | with_reducible refine par_ok3 ?_ | ((with_reducible refine' w_aug ?hv ?_); (case hv => rfl)) | with_reducible refine i_I ?_
  | with_reducible refine w_forL ?_ | with_reducible refine w_forT ?_ | with_reducible refine w_forR1 ?_ | with_reducible refine w_forE ?_ | with_reducible refine w_lcL ?_ | with_reducible refine w_lcT ?_ | with_reducible refine w_lcR ?_
  | ((with_reducible refine a_tup ?hz ?_); (case hz => exact Nat.le_of_ble_eq_true rfl); intro _ _ _ _ _) | ((with_reducible refine a_lst ?hz ?_); (case hz => exact Nat.le_of_ble_eq_true rfl); intro _ _ _ _ _)
  | ((with_reducible refine k_turn1 ?hw ?_); (case hw => rfl)) | ((with_reducible refine k_turn ?hw ?_); (case hw => rfl)) | with_reducible refine r_isV ?_ | with_reducible refine r_isNotV ?_ | with_reducible refine r_isN ?_ | with_reducible refine r_notN ?_ | with_reducible refine w_lcZ ?_
  | ((with_reducible refine r_I ?hc ?_); (case hc => first | decide | assumption))
  | with_reducible refine w_forET ?_
  | ((with_reducible refine w_dnewK ?_); intro _ _ _ _ _) | with_reducible refine w_dput ?_ | with_reducible refine w_lstRg ?_ | with_reducible refine w_lstZip ?_ | with_reducible refine w_callK ?_
  | (with_reducible refine if_pos' ?_) | (with_reducible refine if_neg' ?_))
local macro_rules | `(tactic| walk_at "w") => `(tactic| repeat (walk_at "w1"))

section
variable {P : Program} {w : World} {K : PySem.W.Frag} {mg : Str → Option Value} {base : Heap}
abbrev s_asc : Stmt := topS 6
theorem sc_asc : FnScope ["names", "one", "other"] ["names"] (defScope s_asc) := ⟨rfl, rfl, rfl, by decide +kernel, rfl, by decide +kernel, by decide +kernel⟩
theorem C_asc (F : Fn K mg "are_ascending" s_asc ["names"]) (Z : Bz mg) : Cal P w K mg base 1 "are_ascending" (spRis K) := by
  have S := sc_asc
  refine F.cal S (fun vs H Q E h => ?_) (fun f cdv A' outer s H vs Q E hr h => ?_)
  · obtain ⟨a, ss, rfl, _⟩ := h; rfl
  · obtain ⟨a, ss, rfl, ha, hl, q⟩ := h
    refine ⟨_, (pss_one (ps_ret (pe_callB (cr_all rfl) (by rfl) Z.all (by decide +kernel) (pa_cons (pe_lc (own := [("one", 1), ("other", 2)]) (g := (gTup K 2 (gCons (gName 1) (gCons (gName 2) gNil)))) (tt := tYes) rfl S.nd (RZ.pi_zipA (by rfl) Z.zip (pa_cons (pv 0) (pa_cons (pe_slice (SlR.or sl_tupA sl_list) (pv 0) (po_some pe_int) po_none) pa_nil))) (blkOk_by (N := ["names", "one", "other"]) (sc := defScope s_asc) (by decide +kernel)) (fun _ _ _ _ _ => (pg_tup rfl (pgs_cons (pg_name (i := 1) S.nd rfl (Or.inl rfl)) (pgs_cons (pg_name (i := 2) S.nd rfl (Or.inl rfl)) pgs_nil)))) (fun _ _ _ _ _ => pts_nil) (fun _ _ _ _ _ => (pe_cmpR op_lt_str (pv 1) (pv 2) (nomark _)))) pa_nil)))), ?_⟩
    try dsimp only [cxOf, Cx.nox, Cx.wish]
    walk_at "w"
    rcases ha with ha | ha
    · refine .inl (r_slT ha fun p1 H1 e1 h1 => ?_)
      rw [show ((1 : Int)) = ((1 : Nat) : Int) from rfl, cut_from2, tail_map] at h1
      walk_at "w"
      refine ⟨a, p1, ss.map V.str, (ss.drop 1).map V.str, rfl, .inr ⟨.of (e1 _ _ ha), .of h1, ?_⟩⟩
      refine lcZT2 (by simp) (fun i acc D H' => Ex H1 H' ∧ acc = (((ss.zip (ss.drop 1)).take i).map fun p => ltS p.1 p.2).map V.bl)
        (fun D H3 _ e3 _ => ⟨e3, rfl⟩) (fun i acc D H' _ p => ⟨.of (p.1 _ _ (e1 _ _ ha)), .of (p.1 _ _ h1)⟩) (fun i x y acc D H' T H3 hx hy hlt hD hacc p e3 hT => ?_) (fun acc D H' _ hD hacc p => ?_)
      · obtain ⟨e4, rfl⟩ := p
        obtain ⟨x, y, rfl, rfl, hz⟩ := zip_at hx hy
        refine w_gtup (.of hT) rfl ?_
        refine w_gcons (w_gname (w_gcons (w_gname (w_gnil ?_))))
        walk_at "w"
        refine ⟨x, y, rfl, rfl, ?_⟩
        have hi := (List.getElem?_eq_some_iff.mp hz).1
        rw [List.length_zip, List.length_drop] at hi
        refine k_lc hacc hlt (by omega) fun H5 h5 k5 => ⟨Ex.mut (e4.trans e3) hD k5, ?_⟩
        rw [take_map_more hz, List.map_append]; rfl
      · obtain ⟨e4, rfl⟩ := p
        rw [List.length_map, zip_full] at hacc
        refine r_all hacc ?_
        have q' := q H' (e1.trans e4)
        rw [show risS ss = ((ss.zip (ss.drop 1)).map fun p => ltS p.1 p.2).all id by simp [risS, List.all_map]] at q'
        exact q'
    · refine .inr (r_slL (.of ha) fun p1 H1 _ e1 h1 => ?_)
      rw [show ((1 : Int)) = ((1 : Nat) : Int) from rfl, cut_from2, tail_map] at h1
      walk_at "w"
      refine ⟨a, p1, ss.map V.str, (ss.drop 1).map V.str, rfl, .inl ⟨.of (e1 _ _ ha), .of h1, ?_⟩⟩
      refine lcZL2 (by simp) (fun i acc D H' => Ex H1 H' ∧ acc = (((ss.zip (ss.drop 1)).take i).map fun p => ltS p.1 p.2).map V.bl)
        (fun D H3 _ e3 _ => ⟨e3, rfl⟩) (fun i acc D H' _ p => ⟨.of (p.1 _ _ (e1 _ _ ha)), .of (p.1 _ _ h1)⟩) (fun i x y acc D H' T H3 hx hy hlt hD hacc p e3 hT => ?_) (fun acc D H' _ hD hacc p => ?_)
      · obtain ⟨e4, rfl⟩ := p
        obtain ⟨x, y, rfl, rfl, hz⟩ := zip_at hx hy
        refine w_gtup (.of hT) rfl ?_
        refine w_gcons (w_gname (w_gcons (w_gname (w_gnil ?_))))
        walk_at "w"
        refine ⟨x, y, rfl, rfl, ?_⟩
        have hi := (List.getElem?_eq_some_iff.mp hz).1
        rw [List.length_zip, List.length_drop] at hi
        refine k_lc hacc hlt (by omega) fun H5 h5 k5 => ⟨Ex.mut (e4.trans e3) hD k5, ?_⟩
        rw [take_map_more hz, List.map_append]; rfl
      · obtain ⟨e4, rfl⟩ := p
        rw [List.length_map, zip_full] at hacc
        refine r_all hacc ?_
        have q' := q H' (e1.trans e4)
        rw [show risS ss = ((ss.zip (ss.drop 1)).map fun p => ltS p.1 p.2).all id by simp [risS, List.all_map]] at q'
        exact q'
abbrev s_needs : Stmt := topS 39
theorem sc_needs : FnScope ["value"] ["value"] (defScope s_needs) := ⟨rfl, rfl, rfl, by decide +kernel, rfl, by decide +kernel, by decide +kernel⟩
theorem C_needs (F : Fn K mg "are_needs" s_needs ["value"]) (Z : Bz mg) (g_MOST_NEEDS : ∃ u, mg "MOST_NEEDS" = some u ∧ RelV (.int 20) u) (CNs : Cal P w K mg base 2 "are_names" spNames) (CAs : Cal P w K mg base 1 "are_ascending" (spRis K)) : Cal P w K mg base 3 "are_needs" (spB 63 needsD) := by
  have S := sc_needs
  refine F.cal S (fun vs H Q E h => ?_) (fun f cdv A' outer s H vs Q E hr h => ?_)
  · obtain ⟨M, v, d, rfl, _⟩ := h; rfl
  · obtain ⟨M, v, d, rfl, hv, hf, q⟩ := h
    refine ⟨_, (pss_one (ps_ret (pe_and (pe_c0 CNs hr (by omega) (by rfl) (pa_cons (pv 0) (pa_cons (pe_gc (by rfl) g_MOST_NEEDS) pa_nil))) (pe_one (pe_c0 CAs hr (by omega) (by rfl) (pa_cons (pv 0) pa_nil)))))), ?_⟩
    try dsimp only [cxOf, Cx.nox, Cx.wish]
    walk_at "w"
    refine ⟨M, v, d, 20, rfl, by decide, hv, hf, fun H1 e1 => ?_⟩
    walk_at "w"
    cases hN : areNamesD 20 d with
    | false =>
      have q' := q H1 e1
      rw [show needsD d = false by
        cases d with
        | tuple ds =>
          simp only [areNamesD, needsD, Bool.and_eq_false_iff] at hN ⊢
          rcases hN with h | h
          · exact .inl h
          · exact .inr (.inl h)
        | _ => rfl] at q'
      refine if_df (by rfl) ?_
      exact q'
    | true =>
      obtain ⟨ds, rfl⟩ : ∃ ds, d = .tuple ds := by cases d <;> simp [areNamesD] at hN ⊢
      have hN' := hN
      simp only [areNamesD, Bool.and_eq_true, decide_eq_true_eq, List.all_eq_true] at hN'
      obtain ⟨a, xs, rfl, ha, hr'⟩ := Rel.of_tup hv
      have hxs := rel_strs hr' fun d hd => name_str (hN'.2 d hd)
      refine if_dt (by rfl) ?_
      walk_at "w"
      refine ⟨a, ds.map strOf, rfl, .inl (by rw [← hxs]; exact e1 _ _ ha), by rw [List.length_map]; omega, fun H2 e2 => ?_⟩
      have q' := q H2 (e1.trans e2)
      rw [show needsD (.tuple ds) = risS (ds.map strOf) by
        have h2 : (decide (ds.length ≤ 20) && ds.all isNameD) = true := hN
        rw [needsD, ← Bool.and_assoc, h2, Bool.true_and]] at q'
      exact q'
end
end BkL
end
section
namespace BkL
open PySem PySem.Spec L2 BkG TL
local macro_rules | `(tactic| walk_at "w1") => `(tactic| first
  | with_reducible refine w_seq ?_ | with_reducible refine w_set ?_ | with_reducible refine w_ret ?_ | with_reducible refine w_drop ?_ | with_reducible refine w_ifS ?_
  | with_reducible refine w_next ?_ | with_reducible refine w_c ?_ | ((with_reducible refine' w_var ?hv ?_); (case hv => rfl)) | with_reducible refine w_op ?_ | with_reducible refine w_cons ?_ | with_reducible refine w_nil ?_
  | with_reducible refine w_cb ?_ | with_reducible refine w_call ?_ | with_reducible refine w_tup ?_ | with_reducible refine w_lst ?_ | with_reducible refine w_bm ?_ | with_reducible refine w_bm0 ?_ | with_reducible refine w_un ?_
  | with_reducible refine w_test ?_ | with_reducible refine w_B ?_ | with_reducible refine k_B ?_ | with_reducible refine w_and ?_ | with_reducible refine w_or ?_ | with_reducible refine w_not ?_ | with_reducible refine w_if ?_
  | with_reducible refine w_andV ?_ | with_reducible refine w_orV ?_ | with_reducible refine w_notV ?_ | with_reducible refine k_andV ?_ | with_reducible refine k_orV ?_ | with_reducible refine k_notV ?_
  | with_reducible refine w_chain ?_ | with_reducible refine ex_bl ?_ | with_reducible refine w_isN ?_ | with_reducible refine w_notN ?_ | with_reducible refine w_yes ?_
  | with_reducible refine r_I0 ?_ | with_reducible refine r_U ?_ | with_reducible refine r_eqI ?_ | with_reducible refine r_neI ?_ | with_reducible refine r_eqS ?_ | with_reducible refine r_neS ?_ | with_reducible refine r_eqB ?_ | with_reducible refine r_neB ?_
  | with_reducible refine r_abs ?_ | with_reducible refine r_int ?_ | with_reducible refine r_intB ?_
  | with_reducible refine w_sl ?_ | with_reducible refine w_nop ?_ | with_reducible refine w_part ?_ | with_reducible refine k_part ?_ | with_reducible refine w_revL ?_
  | with_reducible refine w_asg ?_ | with_reducible refine w_gname ?_ | with_reducible refine w_gsub ?_ | with_reducible refine w_gnil ?_ | with_reducible refine w_gcons ?_ | with_reducible refine w_retN ?_ | with_reducible refine w_brk ?_ | with_reducible refine w_cont ?_
  | with_reducible refine w_par ?_ | with_reducible refine w_par3 ?_ | with_reducible refine par_ok ?_ | with_reducible refine par_ok3 ?_ | ((with_reducible refine' w_aug ?hv ?_); (case hv => rfl)) | with_reducible refine i_I ?_
  | with_reducible refine w_forL ?_ | with_reducible refine w_forT ?_ | with_reducible refine w_forR1 ?_ | with_reducible refine w_forE ?_ | with_reducible refine w_lcL ?_ | with_reducible refine w_lcT ?_ | with_reducible refine w_lcR ?_
  | ((with_reducible refine a_tup ?hz ?_); (case hz => exact Nat.le_of_ble_eq_true rfl); intro _ _ _ _ _) | ((with_reducible refine a_lst ?hz ?_); (case hz => exact Nat.le_of_ble_eq_true rfl); intro _ _ _ _ _)
  | ((with_reducible refine k_turn1 ?hw ?_); (case hw => rfl)) | ((with_reducible refine k_turn ?hw ?_); (case hw => rfl)) | with_reducible refine r_isV ?_ | with_reducible refine r_isNotV ?_ | with_reducible refine r_isN ?_ | with_reducible refine r_notN ?_ | with_reducible refine w_lcZ ?_
  | ((with_reducible refine r_I ?hc ?_); (case hc => first | decide | assumption))
  | with_reducible refine w_forET ?_
  | ((with_reducible refine w_dnewK ?_); intro _ _ _ _ _) | with_reducible refine w_dput ?_ | with_reducible refine w_lstRg ?_ | with_reducible refine w_lstZip ?_ | with_reducible refine w_callK ?_
  | (with_reducible refine if_pos' ?_) | (with_reducible refine if_neg' ?_))
local macro_rules | `(tactic| walk_at "w") => `(tactic| repeat (walk_at "w1"))

section
variable {P : Program} {w : World} {K : PySem.W.Frag} {mg : Str → Option Value} {base : Heap}
abbrev s_parms : Stmt := topS 37
theorem sc_parms : FnScope ["value", "one"] ["value"] (defScope s_parms) := ⟨rfl, rfl, rfl, by decide +kernel, rfl, by decide +kernel, by decide +kernel⟩
theorem C_parms (F : Fn K mg "are_parameters" s_parms ["value"]) (Z : Bz mg) (Zset : mg "set" = none) (g_MOST_KINDS : ∃ u, mg "MOST_KINDS" = some u ∧ RelV (.int 20) u) (CK : CalK P w K mg base 1 "is_kind" ["value"] spKind) (CN : CalK P w K mg base 1 "is_name" ["value"] spNameX) : Cal P w K mg base 2 "are_parameters" (spB 63 parmsD) := by
  have S := sc_parms
  refine F.cal S (fun vs H Q E h => ?_) (fun f cdv A' outer s H vs Q E hr h => ?_)
  · obtain ⟨M, v, d, rfl, _⟩ := h; rfl
  · obtain ⟨M, v, d, rfl, hv, hf, q⟩ := h
    refine ⟨_, (pss_cons (ps_if (PW.pt (pw_or (pt_not (pt_val (pe_callB call_isi (by rfl) Z.isinstance (by decide +kernel) (pa_cons (pv 0) (pa_cons (pe_bltn (v := .ty "tuple") (by rfl) Z.tuple (by decide +kernel) rfl) pa_nil))))) (pw_or1 (pt_cmpR op_gt (pe_callB (cr_len) (by rfl) Z.len (by decide +kernel) (pa_cons (pv 0) pa_nil)) (pe_gc (by rfl) g_MOST_KINDS) (nomark _))))) (pss_one (ps_ret pe_bl)) pss_nil)
      (pss_cons (ps_for PassesOwn.never rfl (pi_tup (pv 0)) (pg_name (i := 1) S.nd rfl (Or.inl rfl)) (pss_one (ps_if (PW.pt (pw_or (pt_not (pt_val (pe_callB call_isi (by rfl) Z.isinstance (by decide +kernel) (pa_cons (pv 1) (pa_cons (pe_bltn (v := .ty "tuple") (by rfl) Z.tuple (by decide +kernel) rfl) pa_nil))))) (pw_or (pt_cmpR op_ne (pe_callB (cr_len) (by rfl) Z.len (by decide +kernel) (pa_cons (pv 1) pa_nil)) pe_int (nomark _)) (pw_or (pt_not (pt_val (pe_c0 CK.cal hr (by omega) (by rfl) (pa_cons (pe_ix ix_tup (pv 1) pe_int (fun _ _ => rfl)) pa_nil)))) (pw_or1 (pt_not (pt_val (pe_c0 CN.cal hr (by omega) (by rfl) (pa_cons (pe_ix ix_tup (pv 1) pe_int (fun _ _ => rfl)) pa_nil))))))))) (pss_one (ps_ret pe_bl)) pss_nil)))
      (pss_one (ps_ret (pe_cmpR op_eq (pe_lenSetT rfl (by rfl) Z.len (by rfl) Zset (pe_lc (own := [("one", 1)]) (g := (gName 1)) (tt := tYes) rfl S.nd (pi_tup (pv 0)) (blkOk_by (N := ["value", "one"]) (sc := defScope s_parms) (by decide +kernel)) (fun _ _ _ _ _ => (pg_name (i := 1) S.nd rfl (Or.inl rfl))) (fun _ _ _ _ _ => pts_nil) (fun _ _ _ _ _ => (pe_ix (show IxR _ (rIxT K) from ix_tup) (pv 1) pe_int (fun _ _ => rfl))))) (pe_callB (cr_len) (by rfl) Z.len (by decide +kernel) (pa_cons (pv 0) pa_nil)) (nomark _)))))), ?_⟩
    try dsimp only [cxOf, Cx.nox, Cx.wish]
    walk_at "w"
    refine r_isiTup hv ?_
    walk_at "w"
    have q0 := q H (fun _ _ h => h)
    refine if_by (fun h => ?_) (fun h => ?_)
    · have e : isTup d = false := by simpa using h
      walk_at "w"
      rw [(no_tup e rightSt).2.2.2.2.2.2.1] at q0
      exact q0
    obtain ⟨ds, rfl⟩ : ∃ ds, d = .tuple ds := by cases d <;> simp [isTup] at h ⊢
    obtain ⟨a, xs, rfl, ha, hr'⟩ := Rel.of_tup hv
    walk_at "w"
    refine r_len (.inr (.of ha)) rfl ?_
    walk_at "w"
    refine if_by (fun h => ?_) (fun h => ?_)
    · walk_at "w"
      have h' : (20 : Int) < (xs.length : Int) := of_decide_eq_true h
      have hn : ¬ ds.length ≤ 20 := by have := hr'.1; omega
      rw [show parmsD (.tuple ds) = false by simp [parmsD, hn]] at q0
      exact q0
    have hn : ds.length ≤ 20 := by
      have h' : ¬ (20 : Int) < (xs.length : Int) := of_decide_eq_false h
      have := hr'.1
      omega
    clear q0
    walk_at "w"
    refine k_forT (.of ha) (fun i σ' H' => Ex H H' ∧ (∃ z, σ' = [some (.ref a), z]) ∧ ∀ d ∈ ds.take i, pairKN d = true) ⟨(fun _ _ h => h), ⟨_, rfl⟩, by simp⟩ (fun i σ' H' _ p => .of (p.1 _ _ ha)) (fun i x σ' H' hx p => ?_) (fun σ' H' p => ?_)
    · obtain ⟨e, ⟨z, rfl⟩, hp⟩ := p
      obtain ⟨d, hd⟩ := get_of_len hr'.1 hx
      have dv := (hr'.2 i x d hx hd).ex e
      have hdm := List.mem_of_getElem? hd
      have fd : fine 62 d = true := fine.tup_in hf hdm
      have no : ∀ {H2 : Hp}, Ex H' H2 → pairKN d = false → Q (.bl false) H2 := fun e2 hb => by
        have q' := q _ (e.trans e2)
        rw [show parmsD (.tuple ds) = false by
          have : ds.all pairKN = false := by
            rw [List.all_eq_false]
            exact ⟨d, hdm, by rw [hb]; exact Bool.false_ne_true⟩
          rw [parmsD, this, Bool.false_and, Bool.and_false]] at q'
        exact q'
      walk_at "w"
      refine r_isiTup dv ?_
      walk_at "w"
      refine if_by (fun h => ?_) (fun h => ?_)
      · walk_at "w"
        exact no (fun _ _ h => h) (no_tup (by simpa using h) rightSt).2.2.2.2.2.1
      obtain ⟨es, rfl⟩ : ∃ es, d = .tuple es := by cases d <;> simp [isTup] at h ⊢
      obtain ⟨b, ys, rfl, hb, hry⟩ := Rel.of_tup dv
      walk_at "w"
      refine r_len (.inr (.of hb)) rfl ?_
      walk_at "w"
      refine if_by (fun h => ?_) (fun h => ?_)
      · walk_at "w"
        have h' : ((ys.length : Int)) ≠ 2 := by simpa using h
        exact no (fun _ _ h => h) (pairKN_len (by have := hry.1; omega))
      obtain ⟨k, n, rfl⟩ := len2 (l := es) (by
        have h' : ((ys.length : Int)) = 2 := by simpa using h
        have := hry.1; omega)
      obtain ⟨v1, r1, rfl, dv1, hr1⟩ := hry.head
      obtain ⟨v2, r2, rfl, dv2, hr2⟩ := hr1.head
      obtain rfl := hr2.none
      walk_at "w"
      refine r_ixT (.of hb) (v := v1) rfl ?_
      walk_at "w"
      refine ⟨M, v1, k, rfl, dv1, ?_⟩
      walk_at "w"
      refine if_by (fun h => ?_) (fun h => ?_)
      · walk_at "w"
        exact no (fun _ _ h => h) (by rw [pairKN, show isKindD k = false by simpa using h]; rfl)
      have hk : isKindD k = true := by simpa using h
      walk_at "w"
      refine r_ixT (.of hb) (v := v2) rfl ?_
      walk_at "w"
      refine ⟨M, v2, n, rfl, dv2, fine.shortS (fine.tup_in fd (by simp)), fun H2 e2 => ?_⟩
      walk_at "w"
      refine if_by (fun h => ?_) (fun h => ?_)
      · walk_at "w"
        exact no e2 (by rw [pairKN, show isNameD n = false by simpa using h, Bool.and_false])
      have hnm : isNameD n = true := by simpa using h
      walk_at "w"
      refine ⟨e.trans e2, ⟨_, rfl⟩, fun d' hd' => ?_⟩
      rw [take_more hd] at hd'
      rcases List.mem_append.mp hd' with h | h
      · exact hp d' h
      · rw [List.mem_singleton.mp h, pairKN, hk, hnm]; rfl
    · obtain ⟨e, ⟨z, rfl⟩, hp⟩ := p
      rw [hr'.1, List.take_length] at hp
      walk_at "w"
      have ha' := e _ _ ha
      refine w_lenSetT ?_
      walk_at "w"
      refine k_lcT (.of ha') (lcT (xs := xs) (fun i acc D H2 => Ex H' H2 ∧ acc = ((ds.take i).map secS).map V.str) (fun D H2 _ e _ => ⟨e, rfl⟩) (fun i acc D H2 _ p => .of (p.1 _ _ ha')) (fun i x acc D H2 hx hlt hD hacc p => ?_) (fun acc D H2 _ hD hacc p => ?_))
      · obtain ⟨e2, rfl⟩ := p
        obtain ⟨d, hd⟩ := get_of_len hr'.1 hx
        have hi : i < ds.length := (List.getElem?_eq_some_iff.mp hd).1
        obtain ⟨k, n, rfl, hnm⟩ := pair_sec (hp d (List.mem_of_getElem? hd))
        obtain ⟨b, ys, rfl, hb, hry⟩ := Rel.of_tup (((hr'.2 i x _ hx hd).ex e).ex e2)
        obtain ⟨v1, r1, rfl, dv1, hr1⟩ := hry.head
        obtain ⟨v2, r2, rfl, dv2, hr2⟩ := hr1.head
        obtain rfl := hr2.none
        rw [name_str hnm] at dv2
        cases dv2
        walk_at "w"
        refine r_ixT (.of hb) (v := .str (strOf n)) rfl ?_
        refine k_lc hacc hlt (by omega) fun H5 h5 k5 => ⟨e2.mut hD k5, ?_⟩
        rw [take_map_more hd, List.map_append]; rfl
      · obtain ⟨e2, rfl⟩ := p
        rw [hr'.1, List.take_length] at hacc
        refine k_lenSetT hacc (by rw [List.length_map]; omega) fun m hm1 hm2 => ?_
        walk_at "w"
        refine r_len (.inr (.of (e2 _ _ ha'))) rfl ?_
        walk_at "w"
        have q' := q H2 (e.trans e2)
        rw [show parmsD (.tuple ds) = decide (((m : Nat) : Int) = (xs.length : Int)) by
          rw [parmsD, decide_eq_true hn, show ds.all pairKN = true from List.all_eq_true.mpr hp, Bool.true_and, Bool.true_and, unlike]
          refine decide_eq_decide.mpr ?_
          rw [← hm2, List.length_map]
          have := hr'.1
          omega] at q'
        exact q'
abbrev s_proc : Stmt := topS 38
theorem sc_proc : FnScope ["value"] ["value"] (defScope s_proc) := ⟨rfl, rfl, rfl, by decide +kernel, rfl, by decide +kernel, by decide +kernel⟩
theorem C_proc (F : Fn K mg "is_procedure" s_proc ["value"]) (Z : Bz mg) (CN : CalK P w K mg base 1 "is_name" ["value"] spNameX) (CPs : Cal P w K mg base 2 "are_parameters" (spB 63 parmsD)) (CIt : CalK P w K mg base 7 "is_statement" ["value"] spIsSt) : CalK P w K mg base 8 "is_procedure" ["value"] (spB 62 (procG rightSt)) := by
  have S := sc_proc
  refine F.calK S (fun vs H Q E h => ?_) (fun f cdv A' outer s H vs Q E hr h => ?_)
  · obtain ⟨M, v, d, rfl, _⟩ := h; rfl
  · obtain ⟨M, v, d, rfl, hv, hf, q⟩ := h
    refine ⟨_, (pss_cons (ps_if (PW.pt (pw_or (pt_not (pt_val (pe_callB call_isi (by rfl) Z.isinstance (by decide +kernel) (pa_cons (pv 0) (pa_cons (pe_bltn (v := .ty "tuple") (by rfl) Z.tuple (by decide +kernel) rfl) pa_nil))))) (pw_or (pt_cmpR op_ne (pe_callB (cr_len) (by rfl) Z.len (by decide +kernel) (pa_cons (pv 0) pa_nil)) pe_int (nomark _)) (pw_or (pt_cmpR (op_neD hr.units) (pe_ix ix_tup (pv 0) pe_int (fun _ _ => rfl)) pe_str (nomark _)) (pw_or1 (pt_not (pt_val (pe_c0 CN.cal hr (by omega) (by rfl) (pa_cons (pe_ix ix_tup (pv 0) pe_int (fun _ _ => rfl)) pa_nil))))))))) (pss_one (ps_ret pe_bl)) pss_nil)
      (pss_one (ps_ret (pe_and (pe_c0 CPs hr (by omega) (by rfl) (pa_cons (pe_ix ix_tup (pv 0) pe_int (fun _ _ => rfl)) pa_nil)) (pe_one (pe_c0 CIt.cal hr (by omega) (by rfl) (pa_cons (pe_ix ix_tup (pv 0) pe_int (fun _ _ => rfl)) pa_nil))))))), ?_⟩
    try dsimp only [cxOf, Cx.nox, Cx.wish]
    walk_at "w"
    refine r_isiTup hv ?_
    walk_at "w"
    have q0 := q H (fun _ _ h => h)
    refine if_by (fun h => ?_) (fun h => ?_)
    · have e : isTup d = false := by simpa using h
      walk_at "w"
      rw [(no_tup e rightSt).1] at q0
      exact q0
    obtain ⟨ds, rfl⟩ : ∃ ds, d = .tuple ds := by cases d <;> simp [isTup] at h ⊢
    obtain ⟨a, xs, rfl, ha, hr'⟩ := Rel.of_tup hv
    walk_at "w"
    refine r_len (.inr (.of ha)) rfl ?_
    walk_at "w"
    refine if_by (fun h => ?_) (fun h => ?_)
    · walk_at "w"
      have h' : ((xs.length : Int)) ≠ 4 := by simpa using h
      rw [procG_len (by have := hr'.1; omega)] at q0
      exact q0
    obtain ⟨p, n, ps, b, rfl⟩ := len4 (l := ds) (by
      have h' : ((xs.length : Int)) = 4 := by simpa using h
      have := hr'.1; omega)
    obtain ⟨v1, r1, rfl, dv1, hr1⟩ := hr'.head
    obtain ⟨v2, r2, rfl, dv2, hr2⟩ := hr1.head
    obtain ⟨v3, r3, rfl, dv3, hr3⟩ := hr2.head
    obtain ⟨v4, r4, rfl, dv4, hr4⟩ := hr3.head
    obtain rfl := hr4.none
    have sub : ∀ e ∈ [p, n, ps, b], fine 62 e = true := fun e he => fine.mono (fine.tup_in (n := 61) hf he) (by decide)
    walk_at "w"
    refine r_ixT (.of ha) (v := v1) rfl ?_
    walk_at "w"
    refine r_neD2' dv1 (.str _) (nice.mono (fine.nice (sub p (by simp))) (by decide)) (by decide +kernel) ?_
    rw [eqv_str]
    walk_at "w"
    refine if_by (fun h => ?_) (fun h => ?_)
    · walk_at "w"
      rw [show procG rightSt (.tuple [p, n, ps, b]) = false by rw [procG, show strIs p "proc" = false by simpa using h]; rfl] at q0
      exact q0
    have hp : strIs p "proc" = true := by simpa using h
    walk_at "w"
    refine r_ixT (.of ha) (v := v2) rfl ?_
    walk_at "w"
    refine ⟨M, v2, n, rfl, dv2, fine.shortS (sub n (by simp)), fun H1 e1 => ?_⟩
    walk_at "w"
    refine if_by (fun h => ?_) (fun h => ?_)
    · walk_at "w"
      have q' := q H1 e1
      rw [show procG rightSt (.tuple [p, n, ps, b]) = false by rw [procG, show isNameD n = false by simpa using h]; simp] at q'
      exact q'
    have hn : isNameD n = true := by simpa using h
    walk_at "w"
    refine r_ixT (.of (e1 _ _ ha)) (v := v3) rfl ?_
    walk_at "w"
    refine ⟨M, v3, ps, rfl, dv3.ex e1, fine.mono (sub ps (by simp)) (by decide), fun H2 e2 => ?_⟩
    walk_at "w"
    have q' := q H2 (e1.trans e2)
    rw [procG, hp, hn, Bool.true_and, Bool.true_and] at q'
    cases hps : parmsD ps with
    | false =>
      refine if_df (by rfl) ?_
      rw [hps] at q'
      exact q'
    | true =>
      refine if_dt (by rfl) ?_
      walk_at "w"
      refine r_ixT (.of ((e1.trans e2) _ _ ha)) (v := v4) rfl ?_
      walk_at "w"
      refine ⟨M, v4, b, rfl, (dv4.ex e1).ex e2, sub b (by simp), fun H3 e3 => ?_⟩
      have q2 := q H3 ((e1.trans e2).trans e3)
      rw [procG, hp, hn, hps, Bool.true_and, Bool.true_and, Bool.true_and] at q2
      exact q2
end
end BkL
end
section
namespace BkL
open PySem PySem.Spec L2 BkG TL
local macro_rules | `(tactic| walk_at "w1") => `(tactic| first
  | with_reducible refine w_seq ?_ | with_reducible refine w_set ?_ | with_reducible refine w_ret ?_ | with_reducible refine w_drop ?_ | with_reducible refine w_ifS ?_
  | with_reducible refine w_next ?_ | with_reducible refine w_c ?_ | ((with_reducible refine' w_var ?hv ?_); (case hv => rfl)) | with_reducible refine w_op ?_ | with_reducible refine w_cons ?_ | with_reducible refine w_nil ?_
  | with_reducible refine w_cb ?_ | with_reducible refine w_call ?_ | with_reducible refine w_tup ?_ | with_reducible refine w_lst ?_ | with_reducible refine w_bm ?_ | with_reducible refine w_bm0 ?_ | with_reducible refine w_un ?_
  | with_reducible refine w_test ?_ | with_reducible refine w_B ?_ | with_reducible refine k_B ?_ | with_reducible refine w_and ?_ | with_reducible refine w_or ?_ | with_reducible refine w_not ?_ | with_reducible refine w_if ?_
  | with_reducible refine w_andV ?_ | with_reducible refine w_orV ?_ | with_reducible refine w_notV ?_ | with_reducible refine k_andV ?_ | with_reducible refine k_orV ?_ | with_reducible refine k_notV ?_
  | with_reducible refine w_chain ?_ | with_reducible refine ex_bl ?_ | with_reducible refine w_isN ?_ | with_reducible refine w_notN ?_ | with_reducible refine w_yes ?_
  | with_reducible refine r_I0 ?_ | with_reducible refine r_U ?_ | with_reducible refine r_eqI ?_ | with_reducible refine r_neI ?_ | with_reducible refine r_eqS ?_ | with_reducible refine r_neS ?_ | with_reducible refine r_eqB ?_ | with_reducible refine r_neB ?_
  | with_reducible refine r_abs ?_ | with_reducible refine r_int ?_ | with_reducible refine r_intB ?_
  | with_reducible refine w_sl ?_ | with_reducible refine w_nop ?_ | with_reducible refine w_part ?_ | with_reducible refine k_part ?_ | with_reducible refine w_revL ?_
  | with_reducible refine w_asg ?_ | with_reducible refine w_gname ?_ | with_reducible refine w_gsub ?_ | with_reducible refine w_gnil ?_ | with_reducible refine w_gcons ?_ | with_reducible refine w_retN ?_ | with_reducible refine w_brk ?_ | with_reducible refine w_cont ?_
  | with_reducible refine w_par ?_ | with_reducible refine w_par3 ?_ | with_reducible refine par_ok ?_ | with_reducible refine par_ok3 ?_ | ((with_reducible refine' w_aug ?hv ?_); (case hv => rfl)) | with_reducible refine i_I ?_
  | with_reducible refine w_forL ?_ | with_reducible refine w_forT ?_ | with_reducible refine w_forR1 ?_ | with_reducible refine w_forE ?_ | with_reducible refine w_lcL ?_ | with_reducible refine w_lcT ?_ | with_reducible refine w_lcR ?_
  | ((with_reducible refine a_tup ?hz ?_); (case hz => exact Nat.le_of_ble_eq_true rfl); intro _ _ _ _ _) | ((with_reducible refine a_lst ?hz ?_); (case hz => exact Nat.le_of_ble_eq_true rfl); intro _ _ _ _ _)
  | ((with_reducible refine k_turn1 ?hw ?_); (case hw => rfl)) | ((with_reducible refine k_turn ?hw ?_); (case hw => rfl)) | with_reducible refine r_isV ?_ | with_reducible refine r_isNotV ?_ | with_reducible refine r_isN ?_ | with_reducible refine r_notN ?_ | with_reducible refine w_lcZ ?_
  | ((with_reducible refine r_I ?hc ?_); (case hc => first | decide | assumption))
  | with_reducible refine w_forET ?_
  | ((with_reducible refine w_dnewK ?_); intro _ _ _ _ _) | with_reducible refine w_dput ?_ | with_reducible refine w_lstRg ?_ | with_reducible refine w_lstZip ?_ | with_reducible refine w_callK ?_
  | (with_reducible refine if_pos' ?_) | (with_reducible refine if_neg' ?_))
local macro_rules | `(tactic| walk_at "w") => `(tactic| repeat (walk_at "w1"))

section
variable {P : Program} {w : World} {K : PySem.W.Frag} {mg : Str → Option Value} {base : Heap}
abbrev s_module : Stmt := topS 40
theorem sc_module : FnScope ["value", "one"] ["value"] (defScope s_module) := ⟨rfl, rfl, rfl, by decide +kernel, rfl, by decide +kernel, by decide +kernel⟩
theorem C_module (F : Fn K mg "is_module" s_module ["value"]) (Z : Bz mg) (Zset : mg "set" = none) (g_MOST_PROCS : ∃ u, mg "MOST_PROCS" = some u ∧ RelV (.int 40) u) (CN : CalK P w K mg base 1 "is_name" ["value"] spNameX) (C2 : Cal P w K mg base 2 "is_width" spWid) (CNe : Cal P w K mg base 3 "are_needs" (spB 63 needsD)) (CPr : CalK P w K mg base 8 "is_procedure" ["value"] (spB 62 (procG rightSt))) : CalK P w K mg base 9 "is_module" ["value"] (spB 62 (moduleG rightSt)) := by
  have S := sc_module
  refine F.calK S (fun vs H Q E h => ?_) (fun f cdv A' outer s H vs Q E hr h => ?_)
  · obtain ⟨M, v, d, rfl, _⟩ := h; rfl
  · obtain ⟨M, v, d, rfl, hv, hf, q⟩ := h
    refine ⟨_, (pss_cons (ps_if (PW.pt (pw_or (pt_not (pt_val (pe_callB call_isi (by rfl) Z.isinstance (by decide +kernel) (pa_cons (pv 0) (pa_cons (pe_bltn (v := .ty "tuple") (by rfl) Z.tuple (by decide +kernel) rfl) pa_nil))))) (pw_or (pt_cmpR op_ne (pe_callB (cr_len) (by rfl) Z.len (by decide +kernel) (pa_cons (pv 0) pa_nil)) pe_int (nomark _)) (pw_or (pt_cmpR (op_neD hr.units) (pe_ix ix_tup (pv 0) pe_int (fun _ _ => rfl)) pe_str (nomark _)) (pw_or1 (pt_not (pt_val (pe_c0 CN.cal hr (by omega) (by rfl) (pa_cons (pe_ix ix_tup (pv 0) pe_int (fun _ _ => rfl)) pa_nil))))))))) (pss_one (ps_ret pe_bl)) pss_nil)
      (pss_cons (ps_if (PW.pt (pw_or (pt_not (pt_val (pe_c0 C2 hr (by omega) (by rfl) (pa_cons (pe_ix ix_tup (pv 0) pe_int (fun _ _ => rfl)) pa_nil)))) (pw_or (pt_not (pt_val (pe_c0 CNe hr (by omega) (by rfl) (pa_cons (pe_ix ix_tup (pv 0) pe_int (fun _ _ => rfl)) pa_nil)))) (pw_or1 (pt_cmpR op_in_seq (pe_ix ix_tup (pv 0) pe_int (fun _ _ => rfl)) (pe_ix ix_tup (pv 0) pe_int (fun _ _ => rfl)) (by rfl)))))) (pss_one (ps_ret pe_bl)) pss_nil)
      (pss_cons (ps_if (PW.pt (pw_or (pt_not (pt_val (pe_callB call_isi (by rfl) Z.isinstance (by decide +kernel) (pa_cons (pe_ix ix_tup (pv 0) pe_int (fun _ _ => rfl)) (pa_cons (pe_bltn (v := .ty "tuple") (by rfl) Z.tuple (by decide +kernel) rfl) pa_nil))))) (pw_or1 (pt_not (pt_chain op_le op_le pe_int (pe_callB (cr_len) (by rfl) Z.len (by decide +kernel) (pa_cons (pe_ix ix_tup (pv 0) pe_int (fun _ _ => rfl)) pa_nil)) (pe_gc (by rfl) g_MOST_PROCS)))))) (pss_one (ps_ret pe_bl)) pss_nil)
      (pss_cons (ps_if (pt_not (pt_val (pe_callB (cr_all rfl) (by rfl) Z.all (by decide +kernel) (pa_cons (pe_lc (own := [("one", 1)]) (g := (gName 1)) (tt := tYes) rfl S.nd (pi_tup (pe_ix ix_tup (pv 0) pe_int (fun _ _ => rfl))) (blkOk_by (N := ["value", "one"]) (sc := defScope s_module) (by decide +kernel)) (fun _ _ _ _ _ => (pg_name (i := 1) S.nd rfl (Or.inl rfl))) (fun _ _ _ _ _ => pts_nil) (fun _ _ _ _ _ => (pe_c0 CPr.cal hr (by omega) (by rfl) (pa_cons (pv 1) pa_nil)))) pa_nil)))) (pss_one (ps_ret pe_bl)) pss_nil)
      (pss_one (ps_ret (pe_cmpR op_eq (pe_lenSetT rfl (by rfl) Z.len (by rfl) Zset (pe_lc (own := [("one", 1)]) (g := (gName 1)) (tt := tYes) rfl S.nd (pi_tup (pe_ix ix_tup (pv 0) pe_int (fun _ _ => rfl))) (blkOk_by (N := ["value", "one"]) (sc := defScope s_module) (by decide +kernel)) (fun _ _ _ _ _ => (pg_name (i := 1) S.nd rfl (Or.inl rfl))) (fun _ _ _ _ _ => pts_nil) (fun _ _ _ _ _ => (pe_ix (show IxR _ (rIxT K) from ix_tup) (pv 1) pe_int (fun _ _ => rfl))))) (pe_callB (cr_len) (by rfl) Z.len (by decide +kernel) (pa_cons (pe_ix ix_tup (pv 0) pe_int (fun _ _ => rfl)) pa_nil)) (nomark _)))))))), ?_⟩
    try dsimp only [cxOf, Cx.nox, Cx.wish]
    walk_at "w"
    refine r_isiTup hv ?_
    walk_at "w"
    have q0 := q H (fun _ _ h => h)
    refine if_by (fun h => ?_) (fun h => ?_)
    · have e : isTup d = false := by simpa using h
      walk_at "w"
      rw [(no_tup e rightSt).2.1] at q0
      exact q0
    obtain ⟨ds, rfl⟩ : ∃ ds, d = .tuple ds := by cases d <;> simp [isTup] at h ⊢
    obtain ⟨a, xs, rfl, ha, hr'⟩ := Rel.of_tup hv
    walk_at "w"
    refine r_len (.inr (.of ha)) rfl ?_
    walk_at "w"
    refine if_by (fun h => ?_) (fun h => ?_)
    · walk_at "w"
      have h' : ((xs.length : Int)) ≠ 5 := by simpa using h
      rw [moduleG_len (by have := hr'.1; omega)] at q0
      exact q0
    obtain ⟨p, n, wd, nd, ps, rfl⟩ := len5 (l := ds) (by
      have h' : ((xs.length : Int)) = 5 := by simpa using h
      have := hr'.1; omega)
    obtain ⟨v1, r1, rfl, dv1, hr1⟩ := hr'.head
    obtain ⟨v2, r2, rfl, dv2, hr2⟩ := hr1.head
    obtain ⟨v3, r3, rfl, dv3, hr3⟩ := hr2.head
    obtain ⟨v4, r4, rfl, dv4, hr4⟩ := hr3.head
    obtain ⟨v5, r5, rfl, dv5, hr5⟩ := hr4.head
    obtain rfl := hr5.none
    have sub : ∀ e ∈ [p, n, wd, nd, ps], fine 61 e = true := fun e he => fine.tup_in (n := 61) hf he
    have fps := sub ps (by simp)
    clear q0
    replace q : ∀ H', Ex H H' → Q (.bl (strIs p "module" && (isNameD n && (isWid wd && (needsD nd && (!nameIn n nd && procsG rightSt ps)))))) H' := q
    walk_at "w"
    refine r_ixT (.of ha) (v := v1) rfl ?_
    walk_at "w"
    refine r_neD2' dv1 (.str _) (nice.mono (fine.nice (sub p (by simp))) (by decide)) (by decide +kernel) ?_
    rw [eqv_str]
    walk_at "w"
    refine if_by (fun h => ?_) (fun h => ?_)
    · walk_at "w"
      have q' := q H (fun _ _ h => h)
      rw [show strIs p "module" = false by simpa using h] at q'
      exact q'
    rw [show strIs p "module" = true by simpa using h] at q
    walk_at "w"
    refine r_ixT (.of ha) (v := v2) rfl ?_
    walk_at "w"
    refine ⟨M, v2, n, rfl, dv2, fine.shortS (sub n (by simp)), fun H1 e1 => ?_⟩
    walk_at "w"
    refine if_by (fun h => ?_) (fun h => ?_)
    · walk_at "w"
      have q' := q H1 e1
      rw [show isNameD n = false by simpa using h] at q'
      exact q'
    have hn : isNameD n = true := by simpa using h
    rw [hn] at q
    have ha1 := e1 _ _ ha
    walk_at "w"
    refine r_ixT (.of ha1) (v := v3) rfl ?_
    walk_at "w"
    refine ⟨M, v3, wd, rfl, dv3.ex e1, ?_⟩
    walk_at "w"
    refine if_by (fun h => ?_) (fun h => ?_)
    · walk_at "w"
      have q' := q H1 e1
      rw [show isWid wd = false by simpa using h] at q'
      exact q'
    rw [show isWid wd = true by simpa using h] at q
    walk_at "w"
    refine r_ixT (.of ha1) (v := v4) rfl ?_
    walk_at "w"
    refine ⟨M, v4, nd, rfl, dv4.ex e1, fine.mono (sub nd (by simp)) (by decide), fun H2 e2 => ?_⟩
    have e12 := e1.trans e2
    walk_at "w"
    refine if_by (fun h => ?_) (fun h => ?_)
    · walk_at "w"
      have q' := q H2 e12
      rw [show needsD nd = false by simpa using h] at q'
      exact q'
    have hnd : needsD nd = true := by simpa using h
    rw [hnd] at q
    have ha2 := e12 _ _ ha
    obtain ⟨ns, rfl⟩ : ∃ ns, nd = .tuple ns := by cases nd <;> simp [needsD] at hnd ⊢
    obtain ⟨b, ys, rfl, hb, hrn⟩ := Rel.of_tup dv4
    have hys := rel_strs hrn fun d hd => name_str (by
      have h' := hnd
      rw [needsD, Bool.and_eq_true, Bool.and_eq_true, List.all_eq_true] at h'
      exact h'.2.1 d hd)
    subst hys
    obtain ⟨s, rfl⟩ : ∃ s, n = .str s := ⟨_, name_str hn⟩
    cases dv2
    walk_at "w"
    refine r_ixT (.of ha2) (v := .str s) rfl ?_
    walk_at "w"
    refine r_ixT (.of ha2) (v := .ref b) rfl ?_
    walk_at "w"
    refine r_in (.inr (.of (e12 _ _ hb))) rfl (by
      rw [List.all_eq_true]
      intro x hx
      obtain ⟨s, _, rfl⟩ := List.mem_map.mp hx
      rfl) ?_
    walk_at "w"
    refine if_by (fun h => ?_) (fun h => ?_)
    · walk_at "w"
      have q' := q H2 e12
      rw [show nameIn (.str s) (.tuple ns) = true from h] at q'
      exact q'
    rw [show nameIn (.str s) (.tuple ns) = false from h] at q
    replace q : ∀ H', Ex H H' → Q (.bl (procsG rightSt ps)) H' := q
    walk_at "w"
    refine r_ixT (.of ha2) (v := v5) rfl ?_
    walk_at "w"
    refine r_isiTup (dv5.ex e12) ?_
    walk_at "w"
    refine if_by (fun h => ?_) (fun h => ?_)
    · have e : isTup ps = false := by simpa using h
      walk_at "w"
      have q' := q H2 e12
      rw [(no_tup e rightSt).2.2.2.2.2.2.2.2.1] at q'
      exact q'
    obtain ⟨pl, rfl⟩ : ∃ pl, ps = .tuple pl := by cases ps <;> simp [isTup] at h ⊢
    obtain ⟨c, zs, rfl, hc, hrp⟩ := Rel.of_tup dv5
    have hc2 := e12 _ _ hc
    have hzl := hrp.1
    walk_at "w"
    refine r_ixT (.of ha2) (v := .ref c) rfl ?_
    walk_at "w"
    refine r_len (.inr (.of hc2)) rfl ?_
    walk_at "w"
    have out : ¬ (1 ≤ pl.length ∧ pl.length ≤ 40) → Q (.bl false) H2 := fun hno => by
      have q' := q H2 e12
      rw [show procsG rightSt (.tuple pl) = false by rw [procsG, decide_eq_false hno]; rfl] at q'
      exact q'
    by_cases h1c : (1 : Int) ≤ (zs.length : Int)
    case neg =>
      rw [decide_eq_false h1c]
      walk_at "w"
      refine if_dt (by rfl) ?_
      walk_at "w"
      exact out (by omega)
    rw [decide_eq_true h1c]
    walk_at "w"
    refine if_by (fun h => ?_) (fun h => ?_)
    · walk_at "w"
      have h' : ¬ ((zs.length : Int) ≤ 40) := of_decide_eq_false (by simpa using h)
      exact out (by omega)
    have h40 : 1 ≤ pl.length ∧ pl.length ≤ 40 := by
      have h' : ((zs.length : Int) ≤ 40) := of_decide_eq_true (by simpa using h)
      omega
    walk_at "w"
    refine r_ixT (.of ha2) (v := .ref c) rfl ?_
    walk_at "w"
    refine k_lcT (.of hc2) (lcT (xs := zs) (fun i acc D H' => Ex H2 H' ∧ acc = ((pl.take i).map (procG rightSt)).map V.bl) (fun D H3 _ e _ => ⟨e, rfl⟩) (fun i acc D H' _ p => .of (p.1 _ _ hc2)) (fun i x acc D H' hx hlt hD hacc p => ?_) (fun acc D H3 _ hD hacc p => ?_))
    · obtain ⟨e, rfl⟩ := p
      obtain ⟨d, hd⟩ := get_of_len hzl hx
      have hi : i < pl.length := (List.getElem?_eq_some_iff.mp hd).1
      have hm := List.mem_of_getElem? hd
      walk_at "w"
      refine ⟨M, x, d, rfl, ((hrp.2 i x d hx hd).ex e12).ex e, fine.mono (fine.tup_in (n := 60) fps hm) (by decide), fun H4 e4 => ?_⟩
      refine k_lc (e4 _ _ hacc) hlt (by omega) fun H5 h5 k5 => ⟨Ex.mut (e.trans e4) hD k5, ?_⟩
      rw [take_map_more hd, List.map_append]; rfl
    obtain ⟨e3, rfl⟩ := p
    rw [hzl, List.take_length] at hacc
    have hc3 := e3 _ _ hc2
    have ha3 := e3 _ _ ha2
    refine r_all hacc ?_
    walk_at "w"
    have ea : (pl.map (procG rightSt)).all id = pl.all (procG rightSt) := by rw [List.all_map]; rfl
    rw [ea]
    refine if_by (fun h => ?_) (fun h => ?_)
    · walk_at "w"
      have q' := q H3 (e12.trans e3)
      rw [show procsG rightSt (.tuple pl) = false by rw [procsG, show pl.all (procG rightSt) = false by simpa using h]; simp] at q'
      exact q'
    have hall : pl.all (procG rightSt) = true := by simpa using h
    have hall' := List.all_eq_true.mp hall
    walk_at "w"
    refine w_lenSetT ?_
    walk_at "w"
    refine r_ixT (.of ha3) (v := .ref c) rfl ?_
    walk_at "w"
    refine k_lcT (.of hc3) (lcT (xs := zs) (fun i acc D H' => Ex H3 H' ∧ acc = ((pl.take i).map secS).map V.str) (fun D H4 _ e _ => ⟨e, rfl⟩) (fun i acc D H' _ p => .of (p.1 _ _ hc3)) (fun i x acc D H' hx hlt hD hacc p => ?_) (fun acc D H4 _ hD hacc p => ?_))
    · obtain ⟨e, rfl⟩ := p
      obtain ⟨d, hd⟩ := get_of_len hzl hx
      have hi : i < pl.length := (List.getElem?_eq_some_iff.mp hd).1
      obtain ⟨u1, u2, u3, u4, rfl, hnm⟩ := proc_sec (hall' d (List.mem_of_getElem? hd))
      obtain ⟨g, gs, rfl, hg, hrg⟩ := Rel.of_tup (((hrp.2 i x _ hx hd).ex e12).ex (e3.trans e))
      obtain ⟨w1, r1, rfl, dw1, hr1⟩ := hrg.head
      obtain ⟨w2, r2, rfl, dw2, hr2⟩ := hr1.head
      rw [name_str hnm] at dw2
      cases dw2
      walk_at "w"
      refine r_ixT (.of hg) (v := .str (strOf u2)) (atI_nn (j := 1) rfl rfl) ?_
      refine k_lc hacc hlt (by omega) fun H5 h5 k5 => ⟨Ex.mut e hD k5, ?_⟩
      rw [take_map_more hd, List.map_append]; rfl
    obtain ⟨e4, rfl⟩ := p
    rw [hzl, List.take_length] at hacc
    refine k_lenSetT hacc (by rw [List.length_map]; omega) fun m hm1 hm2 => ?_
    walk_at "w"
    refine r_ixT (.of (e4 _ _ ha3)) (v := .ref c) rfl ?_
    walk_at "w"
    refine r_len (.inr (.of (e4 _ _ hc3))) rfl ?_
    walk_at "w"
    have q' := q H4 ((e12.trans e3).trans e4)
    rw [show procsG rightSt (.tuple pl) = decide (((m : Nat) : Int) = (zs.length : Int)) by
      rw [procsG, decide_eq_true h40, hall, Bool.true_and, Bool.true_and, unlike]
      refine decide_eq_decide.mpr ?_
      rw [← hm2, List.length_map]
      omega] at q'
    exact q'
end
end BkL
end
section
namespace BkL
open PySem PySem.Spec L2 BkG TL
local macro_rules | `(tactic| walk_at "w1") => `(tactic| first
  | with_reducible refine w_seq ?_ | with_reducible refine w_set ?_ | with_reducible refine w_ret ?_ | with_reducible refine w_drop ?_ | with_reducible refine w_ifS ?_
  | with_reducible refine w_next ?_ | with_reducible refine w_c ?_ | ((with_reducible refine' w_var ?hv ?_); (case hv => rfl)) | with_reducible refine w_op ?_ | with_reducible refine w_cons ?_ | with_reducible refine w_nil ?_
  | with_reducible refine w_cb ?_ | with_reducible refine w_call ?_ | with_reducible refine w_tup ?_ | with_reducible refine w_lst ?_ | with_reducible refine w_bm ?_ | with_reducible refine w_bm0 ?_ | with_reducible refine w_un ?_
  | with_reducible refine w_test ?_ | with_reducible refine w_B ?_ | with_reducible refine k_B ?_ | with_reducible refine w_and ?_ | with_reducible refine w_or ?_ | with_reducible refine w_not ?_ | with_reducible refine w_if ?_
  | with_reducible refine w_andV ?_ | with_reducible refine w_orV ?_ | with_reducible refine w_notV ?_ | with_reducible refine k_andV ?_ | with_reducible refine k_orV ?_ | with_reducible refine k_notV ?_
  | with_reducible refine w_chain ?_ | with_reducible refine ex_bl ?_ | with_reducible refine w_isN ?_ | with_reducible refine w_notN ?_ | with_reducible refine w_yes ?_
  | with_reducible refine r_I0 ?_ | with_reducible refine r_U ?_ | with_reducible refine r_eqI ?_ | with_reducible refine r_neI ?_ | with_reducible refine r_eqS ?_ | with_reducible refine r_neS ?_ | with_reducible refine r_eqB ?_ | with_reducible refine r_neB ?_
  | with_reducible refine r_abs ?_ | with_reducible refine r_int ?_ | with_reducible refine r_intB ?_
  | with_reducible refine w_sl ?_ | with_reducible refine w_nop ?_ | with_reducible refine w_part ?_ | with_reducible refine k_part ?_ | with_reducible refine w_revL ?_
  | with_reducible refine w_asg ?_ | with_reducible refine w_gname ?_ | with_reducible refine w_gsub ?_ | with_reducible refine w_gnil ?_ | with_reducible refine w_gcons ?_ | with_reducible refine w_retN ?_ | with_reducible refine w_brk ?_ | with_reducible refine w_cont ?_
  | with_reducible refine w_par ?_ | with_reducible refine w_par3 ?_ | with_reducible refine par_ok ?_ | with_reducible refine par_ok3 ?_ | ((with_reducible refine' w_aug ?hv ?_); (case hv => rfl)) | with_reducible refine i_I ?_
  | with_reducible refine w_forL ?_ | with_reducible refine w_forT ?_ | with_reducible refine w_forR1 ?_ | with_reducible refine w_forE ?_ | with_reducible refine w_lcL ?_ | with_reducible refine w_lcT ?_ | with_reducible refine w_lcR ?_
  | ((with_reducible refine a_tup ?hz ?_); (case hz => exact Nat.le_of_ble_eq_true rfl); intro _ _ _ _ _) | ((with_reducible refine a_lst ?hz ?_); (case hz => exact Nat.le_of_ble_eq_true rfl); intro _ _ _ _ _)
  | ((with_reducible refine k_turn1 ?hw ?_); (case hw => rfl)) | ((with_reducible refine k_turn ?hw ?_); (case hw => rfl)) | with_reducible refine r_isV ?_ | with_reducible refine r_isNotV ?_ | with_reducible refine r_isN ?_ | with_reducible refine r_notN ?_ | with_reducible refine w_lcZ ?_
  | ((with_reducible refine r_I ?hc ?_); (case hc => first | decide | assumption))
  | with_reducible refine w_forET ?_
  | ((with_reducible refine w_dnewK ?_); intro _ _ _ _ _) | with_reducible refine w_dput ?_ | with_reducible refine w_lstRg ?_ | with_reducible refine w_lstZip ?_ | with_reducible refine w_callK ?_
  | (with_reducible refine if_pos' ?_) | (with_reducible refine if_neg' ?_))
local macro_rules | `(tactic| walk_at "w") => `(tactic| repeat (walk_at "w1"))

section
variable {P : Program} {w : World} {K : PySem.W.Frag} {mg : Str → Option Value} {base : Heap}
abbrev s_frow : Stmt := topS 41
theorem sc_frow : FnScope ["value"] ["value"] (defScope s_frow) := ⟨rfl, rfl, rfl, by decide +kernel, rfl, by decide +kernel, by decide +kernel⟩
theorem C_frow (F : Fn K mg "is_face_row" s_frow ["value"]) (Z : Bz mg) (CN : CalK P w K mg base 1 "is_name" ["value"] spNameX) (CKs : CalK P w K mg base 2 "are_kinds" ["value"] spKinds) : Cal P w K mg base 3 "is_face_row" (spB 62 faceRowD) := by
  have S := sc_frow
  refine F.cal S (fun vs H Q E h => ?_) (fun f cdv A' outer s H vs Q E hr h => ?_)
  · obtain ⟨M, v, d, rfl, _⟩ := h; rfl
  · obtain ⟨M, v, d, rfl, hv, hf, q⟩ := h
    refine ⟨_, (pss_one (ps_ret (pe_and (pe_callB call_isi (by rfl) Z.isinstance (by decide +kernel) (pa_cons (pv 0) (pa_cons (pe_bltn (v := .ty "tuple") (by rfl) Z.tuple (by decide +kernel) rfl) pa_nil))) (pe_and (pe_cmpR op_eq (pe_callB (cr_len) (by rfl) Z.len (by decide +kernel) (pa_cons (pv 0) pa_nil)) pe_int (nomark _)) (pe_and (pe_c0 CN.cal hr (by omega) (by rfl) (pa_cons (pe_ix ix_tup (pv 0) pe_int (fun _ _ => rfl)) pa_nil)) (pe_one (pe_c0 CKs.cal hr (by omega) (by rfl) (pa_cons (pe_ix ix_tup (pv 0) pe_int (fun _ _ => rfl)) pa_nil)))))))), ?_⟩
    try dsimp only [cxOf, Cx.nox, Cx.wish]
    walk_at "w"
    refine r_isiTup hv ?_
    walk_at "w"
    refine if_by (fun h => ?_) (fun h => ?_)
    · obtain ⟨ds, rfl⟩ : ∃ ds, d = .tuple ds := by cases d <;> simp [isTup] at h ⊢
      obtain ⟨a, xs, rfl, ha, hr'⟩ := Rel.of_tup hv
      walk_at "w"
      refine r_len (.inr (.of ha)) rfl ?_
      walk_at "w"
      refine if_by (fun h => ?_) (fun h => ?_)
      · obtain ⟨n, ks, rfl⟩ := len2 (l := ds) (by
          have h' : ((xs.length : Int)) = 2 := by simpa using h
          have := hr'.1; omega)
        obtain ⟨v1, r1, rfl, dv1, hr1⟩ := hr'.head
        obtain ⟨v2, r2, rfl, dv2, hr2⟩ := hr1.head
        obtain rfl := hr2.none
        walk_at "w"
        refine r_ixT (.of ha) (v := v1) rfl ?_
        walk_at "w"
        refine ⟨M, v1, n, rfl, dv1, fine.shortS (fine.tup_in (n := 61) hf (by simp)), fun H1 e1 => ?_⟩
        walk_at "w"
        have q1 := q H1 e1
        rw [faceRowD] at q1
        refine if_by (fun h => ?_) (fun h => ?_)
        · have hn : isNameD n = true := by simpa using h
          walk_at "w"
          refine r_ixT (.of (e1 _ _ ha)) (v := v2) rfl ?_
          walk_at "w"
          refine ⟨M, v2, ks, rfl, dv2.ex e1, fun H2 e2 => ?_⟩
          have q2 := q H2 (e1.trans e2)
          rw [faceRowD, hn] at q2
          exact q2
        · rw [show isNameD n = false by simpa using h] at q1
          exact q1
      · have q' := q H (fun _ _ h => h)
        rw [rowD_len (by
          have h' : ((xs.length : Int)) ≠ 2 := by simpa using h
          have := hr'.1; omega)] at q'
        exact q'
    · have q' := q H (fun _ _ h => h)
      rw [(no_tup (by simpa using h) rightSt).2.2.2.2.1] at q'
      exact q'
abbrev s_face : Stmt := topS 42
theorem sc_face : FnScope ["value", "one"] ["value"] (defScope s_face) := ⟨rfl, rfl, rfl, by decide +kernel, rfl, by decide +kernel, by decide +kernel⟩
theorem C_face (F : Fn K mg "is_face" s_face ["value"]) (Z : Bz mg) (Zset : mg "set" = none) (g_MOST_PROCS : ∃ u, mg "MOST_PROCS" = some u ∧ RelV (.int 40) u) (CN : CalK P w K mg base 1 "is_name" ["value"] spNameX) (C2 : Cal P w K mg base 2 "is_width" spWid) (CFr : Cal P w K mg base 3 "is_face_row" (spB 62 faceRowD)) : CalK P w K mg base 4 "is_face" ["value"] (spB 62 faceD) := by
  have S := sc_face
  refine F.calK S (fun vs H Q E h => ?_) (fun f cdv A' outer s H vs Q E hr h => ?_)
  · obtain ⟨M, v, d, rfl, _⟩ := h; rfl
  · obtain ⟨M, v, d, rfl, hv, hf, q⟩ := h
    refine ⟨_, (pss_cons (ps_if (PW.pt (pw_or (pt_not (pt_val (pe_callB call_isi (by rfl) Z.isinstance (by decide +kernel) (pa_cons (pv 0) (pa_cons (pe_bltn (v := .ty "tuple") (by rfl) Z.tuple (by decide +kernel) rfl) pa_nil))))) (pw_or (pt_cmpR op_ne (pe_callB (cr_len) (by rfl) Z.len (by decide +kernel) (pa_cons (pv 0) pa_nil)) pe_int (nomark _)) (pw_or (pt_cmpR (op_neD hr.units) (pe_ix ix_tup (pv 0) pe_int (fun _ _ => rfl)) pe_str (nomark _)) (pw_or1 (pt_not (pt_val (pe_c0 CN.cal hr (by omega) (by rfl) (pa_cons (pe_ix ix_tup (pv 0) pe_int (fun _ _ => rfl)) pa_nil))))))))) (pss_one (ps_ret pe_bl)) pss_nil)
      (pss_cons (ps_if (PW.pt (pw_or (pt_not (pt_val (pe_c0 C2 hr (by omega) (by rfl) (pa_cons (pe_ix ix_tup (pv 0) pe_int (fun _ _ => rfl)) pa_nil)))) (pw_or (pt_not (pt_val (pe_callB call_isi (by rfl) Z.isinstance (by decide +kernel) (pa_cons (pe_ix ix_tup (pv 0) pe_int (fun _ _ => rfl)) (pa_cons (pe_bltn (v := .ty "tuple") (by rfl) Z.tuple (by decide +kernel) rfl) pa_nil))))) (pw_or1 (pt_not (pt_chain op_le op_le pe_int (pe_callB (cr_len) (by rfl) Z.len (by decide +kernel) (pa_cons (pe_ix ix_tup (pv 0) pe_int (fun _ _ => rfl)) pa_nil)) (pe_gc (by rfl) g_MOST_PROCS))))))) (pss_one (ps_ret pe_bl)) pss_nil)
      (pss_cons (ps_if (pt_not (pt_val (pe_callB (cr_all rfl) (by rfl) Z.all (by decide +kernel) (pa_cons (pe_lc (own := [("one", 1)]) (g := (gName 1)) (tt := tYes) rfl S.nd (pi_tup (pe_ix ix_tup (pv 0) pe_int (fun _ _ => rfl))) (blkOk_by (N := ["value", "one"]) (sc := defScope s_face) (by decide +kernel)) (fun _ _ _ _ _ => (pg_name (i := 1) S.nd rfl (Or.inl rfl))) (fun _ _ _ _ _ => pts_nil) (fun _ _ _ _ _ => (pe_c0 CFr hr (by omega) (by rfl) (pa_cons (pv 1) pa_nil)))) pa_nil)))) (pss_one (ps_ret pe_bl)) pss_nil)
      (pss_one (ps_ret (pe_cmpR op_eq (pe_lenSetT rfl (by rfl) Z.len (by rfl) Zset (pe_lc (own := [("one", 1)]) (g := (gName 1)) (tt := tYes) rfl S.nd (pi_tup (pe_ix ix_tup (pv 0) pe_int (fun _ _ => rfl))) (blkOk_by (N := ["value", "one"]) (sc := defScope s_face) (by decide +kernel)) (fun _ _ _ _ _ => (pg_name (i := 1) S.nd rfl (Or.inl rfl))) (fun _ _ _ _ _ => pts_nil) (fun _ _ _ _ _ => (pe_ix (show IxR _ (rIxT K) from ix_tup) (pv 1) pe_int (fun _ _ => rfl))))) (pe_callB (cr_len) (by rfl) Z.len (by decide +kernel) (pa_cons (pe_ix ix_tup (pv 0) pe_int (fun _ _ => rfl)) pa_nil)) (nomark _))))))), ?_⟩
    try dsimp only [cxOf, Cx.nox, Cx.wish]
    walk_at "w"
    refine r_isiTup hv ?_
    walk_at "w"
    have q0 := q H (fun _ _ h => h)
    refine if_by (fun h => ?_) (fun h => ?_)
    · have e : isTup d = false := by simpa using h
      walk_at "w"
      rw [(no_tup e rightSt).2.2.1] at q0
      exact q0
    obtain ⟨ds, rfl⟩ : ∃ ds, d = .tuple ds := by cases d <;> simp [isTup] at h ⊢
    obtain ⟨a, xs, rfl, ha, hr'⟩ := Rel.of_tup hv
    walk_at "w"
    refine r_len (.inr (.of ha)) rfl ?_
    walk_at "w"
    refine if_by (fun h => ?_) (fun h => ?_)
    · walk_at "w"
      have h' : ((xs.length : Int)) ≠ 4 := by simpa using h
      rw [faceD_len (by have := hr'.1; omega)] at q0
      exact q0
    obtain ⟨p, n, wd, ps, rfl⟩ := len4 (l := ds) (by
      have h' : ((xs.length : Int)) = 4 := by simpa using h
      have := hr'.1; omega)
    obtain ⟨v1, r1, rfl, dv1, hr1⟩ := hr'.head
    obtain ⟨v2, r2, rfl, dv2, hr2⟩ := hr1.head
    obtain ⟨v3, r3, rfl, dv3, hr3⟩ := hr2.head
    obtain ⟨v5, r5, rfl, dv5, hr5⟩ := hr3.head
    obtain rfl := hr5.none
    have sub : ∀ e ∈ [p, n, wd, ps], fine 61 e = true := fun e he => fine.tup_in (n := 61) hf he
    have fps := sub ps (by simp)
    clear q0
    replace q : ∀ H', Ex H H' → Q (.bl (strIs p "face" && (isNameD n && (isWid wd && rowsD ps)))) H' := q
    walk_at "w"
    refine r_ixT (.of ha) (v := v1) rfl ?_
    walk_at "w"
    refine r_neD2' dv1 (.str _) (nice.mono (fine.nice (sub p (by simp))) (by decide)) (by decide +kernel) ?_
    rw [eqv_str]
    walk_at "w"
    refine if_by (fun h => ?_) (fun h => ?_)
    · walk_at "w"
      have q' := q H (fun _ _ h => h)
      rw [show strIs p "face" = false by simpa using h] at q'
      exact q'
    rw [show strIs p "face" = true by simpa using h] at q
    walk_at "w"
    refine r_ixT (.of ha) (v := v2) rfl ?_
    walk_at "w"
    refine ⟨M, v2, n, rfl, dv2, fine.shortS (sub n (by simp)), fun H1 e1 => ?_⟩
    walk_at "w"
    refine if_by (fun h => ?_) (fun h => ?_)
    · walk_at "w"
      have q' := q H1 e1
      rw [show isNameD n = false by simpa using h] at q'
      exact q'
    have hn : isNameD n = true := by simpa using h
    rw [hn] at q
    have ha2 := e1 _ _ ha
    walk_at "w"
    refine r_ixT (.of ha2) (v := v3) rfl ?_
    walk_at "w"
    refine ⟨M, v3, wd, rfl, dv3.ex e1, ?_⟩
    walk_at "w"
    refine if_by (fun h => ?_) (fun h => ?_)
    · walk_at "w"
      have q' := q H1 e1
      rw [show isWid wd = false by simpa using h] at q'
      exact q'
    rw [show isWid wd = true by simpa using h] at q
    replace q : ∀ H', Ex H H' → Q (.bl (rowsD ps)) H' := q
    walk_at "w"
    refine r_ixT (.of ha2) (v := v5) rfl ?_
    walk_at "w"
    refine r_isiTup (dv5.ex e1) ?_
    walk_at "w"
    refine if_by (fun h => ?_) (fun h => ?_)
    · have e : isTup ps = false := by simpa using h
      walk_at "w"
      have q' := q H1 e1
      rw [(no_tup e rightSt).2.2.2.2.2.2.2.2.2.1] at q'
      exact q'
    obtain ⟨pl, rfl⟩ : ∃ pl, ps = .tuple pl := by cases ps <;> simp [isTup] at h ⊢
    obtain ⟨c, zs, rfl, hc, hrp⟩ := Rel.of_tup dv5
    have hc2 := e1 _ _ hc
    have hzl := hrp.1
    walk_at "w"
    refine r_ixT (.of ha2) (v := .ref c) rfl ?_
    walk_at "w"
    refine r_len (.inr (.of hc2)) rfl ?_
    walk_at "w"
    have out : ¬ (1 ≤ pl.length ∧ pl.length ≤ 40) → Q (.bl false) H1 := fun hno => by
      have q' := q H1 e1
      rw [show rowsD (.tuple pl) = false by rw [rowsD, decide_eq_false hno]; rfl] at q'
      exact q'
    by_cases h1c : (1 : Int) ≤ (zs.length : Int)
    case neg =>
      rw [decide_eq_false h1c]
      walk_at "w"
      refine if_dt (by rfl) ?_
      walk_at "w"
      exact out (by omega)
    rw [decide_eq_true h1c]
    walk_at "w"
    refine if_by (fun h => ?_) (fun h => ?_)
    · walk_at "w"
      have h' : ¬ ((zs.length : Int) ≤ 40) := of_decide_eq_false (by simpa using h)
      exact out (by omega)
    have h40 : 1 ≤ pl.length ∧ pl.length ≤ 40 := by
      have h' : ((zs.length : Int) ≤ 40) := of_decide_eq_true (by simpa using h)
      omega
    walk_at "w"
    refine r_ixT (.of ha2) (v := .ref c) rfl ?_
    walk_at "w"
    refine k_lcT (.of hc2) (lcT (xs := zs) (fun i acc D H' => Ex H1 H' ∧ acc = ((pl.take i).map faceRowD).map V.bl) (fun D H3 _ e _ => ⟨e, rfl⟩) (fun i acc D H' _ p => .of (p.1 _ _ hc2)) (fun i x acc D H' hx hlt hD hacc p => ?_) (fun acc D H3 _ hD hacc p => ?_))
    · obtain ⟨e, rfl⟩ := p
      obtain ⟨d, hd⟩ := get_of_len hzl hx
      have hi : i < pl.length := (List.getElem?_eq_some_iff.mp hd).1
      have hm := List.mem_of_getElem? hd
      walk_at "w"
      refine ⟨M, x, d, rfl, ((hrp.2 i x d hx hd).ex e1).ex e, fine.mono (fine.tup_in (n := 60) fps hm) (by decide), fun H4 e4 => ?_⟩
      refine k_lc (e4 _ _ hacc) hlt (by omega) fun H5 h5 k5 => ⟨Ex.mut (e.trans e4) hD k5, ?_⟩
      rw [take_map_more hd, List.map_append]; rfl
    obtain ⟨e3, rfl⟩ := p
    rw [hzl, List.take_length] at hacc
    have hc3 := e3 _ _ hc2
    have ha3 := e3 _ _ ha2
    refine r_all hacc ?_
    walk_at "w"
    have ea : (pl.map faceRowD).all id = pl.all faceRowD := by rw [List.all_map]; rfl
    rw [ea]
    refine if_by (fun h => ?_) (fun h => ?_)
    · walk_at "w"
      have q' := q H3 (e1.trans e3)
      rw [show rowsD (.tuple pl) = false by rw [rowsD, show pl.all faceRowD = false by simpa using h]; simp] at q'
      exact q'
    have hall : pl.all faceRowD = true := by simpa using h
    have hall' := List.all_eq_true.mp hall
    walk_at "w"
    refine w_lenSetT ?_
    walk_at "w"
    refine r_ixT (.of ha3) (v := .ref c) rfl ?_
    walk_at "w"
    refine k_lcT (.of hc3) (lcT (xs := zs) (fun i acc D H' => Ex H3 H' ∧ acc = ((pl.take i).map fstS).map V.str) (fun D H4 _ e _ => ⟨e, rfl⟩) (fun i acc D H' _ p => .of (p.1 _ _ hc3)) (fun i x acc D H' hx hlt hD hacc p => ?_) (fun acc D H4 _ hD hacc p => ?_))
    · obtain ⟨e, rfl⟩ := p
      obtain ⟨d, hd⟩ := get_of_len hzl hx
      have hi : i < pl.length := (List.getElem?_eq_some_iff.mp hd).1
      obtain ⟨u1, u2, rfl, hnm⟩ := row_fst (hall' d (List.mem_of_getElem? hd))
      obtain ⟨g, gs, rfl, hg, hrg⟩ := Rel.of_tup (((hrp.2 i x _ hx hd).ex e1).ex (e3.trans e))
      obtain ⟨w1, r1, rfl, dw1, hr1⟩ := hrg.head
      rw [name_str hnm] at dw1
      cases dw1
      walk_at "w"
      refine r_ixT (.of hg) (v := .str (strOf u1)) (atI_nn (j := 0) rfl rfl) ?_
      refine k_lc hacc hlt (by omega) fun H5 h5 k5 => ⟨Ex.mut e hD k5, ?_⟩
      rw [take_map_more hd, List.map_append]; rfl
    obtain ⟨e4, rfl⟩ := p
    rw [hzl, List.take_length] at hacc
    refine k_lenSetT hacc (by rw [List.length_map]; omega) fun m hm1 hm2 => ?_
    walk_at "w"
    refine r_ixT (.of (e4 _ _ ha3)) (v := .ref c) rfl ?_
    walk_at "w"
    refine r_len (.inr (.of (e4 _ _ hc3))) rfl ?_
    walk_at "w"
    have q' := q H4 ((e1.trans e3).trans e4)
    rw [show rowsD (.tuple pl) = decide (((m : Nat) : Int) = (zs.length : Int)) by
      rw [rowsD, decide_eq_true h40, hall, Bool.true_and, Bool.true_and, unlike]
      refine decide_eq_decide.mpr ?_
      rw [← hm2, List.length_map]
      omega] at q'
    exact q'
abbrev s_faces : Stmt := topS 43
theorem sc_faces : FnScope ["value", "one"] ["value"] (defScope s_faces) := ⟨rfl, rfl, rfl, by decide +kernel, rfl, by decide +kernel, by decide +kernel⟩
theorem C_faces (F : Fn K mg "are_faces" s_faces ["value"]) (Z : Bz mg) (g_MOST_SHELF : ∃ u, mg "MOST_SHELF" = some u ∧ RelV (.int 40) u) (CFa : CalK P w K mg base 4 "is_face" ["value"] (spB 62 faceD)) (CAs : Cal P w K mg base 1 "are_ascending" (spRis K)) : CalK P w K mg base 5 "are_faces" ["value"] (spB 62 facesD) := by
  have S := sc_faces
  refine F.calK S (fun vs H Q E h => ?_) (fun f cdv A' outer s H vs Q E hr h => ?_)
  · obtain ⟨M, v, d, rfl, _⟩ := h; rfl
  · obtain ⟨M, v, d, rfl, hv, hf, q⟩ := h
    refine ⟨_, (pss_cons (ps_if (PW.pt (pw_or (pt_not (pt_val (pe_callB call_isi (by rfl) Z.isinstance (by decide +kernel) (pa_cons (pv 0) (pa_cons (pe_bltn (v := .ty "tuple") (by rfl) Z.tuple (by decide +kernel) rfl) pa_nil))))) (pw_or (pt_cmpR op_gt (pe_callB (cr_len) (by rfl) Z.len (by decide +kernel) (pa_cons (pv 0) pa_nil)) (pe_gc (by rfl) g_MOST_SHELF) (nomark _)) (pw_or1 (pt_not (pt_val (pe_callB (cr_all rfl) (by rfl) Z.all (by decide +kernel) (pa_cons (pe_lc (own := [("one", 1)]) (g := (gName 1)) (tt := tYes) rfl S.nd (pi_tup (pv 0)) (blkOk_by (N := ["value", "one"]) (sc := defScope s_faces) (by decide +kernel)) (fun _ _ _ _ _ => (pg_name (i := 1) S.nd rfl (Or.inl rfl))) (fun _ _ _ _ _ => pts_nil) (fun _ _ _ _ _ => (pe_c0 CFa.cal hr (by omega) (by rfl) (pa_cons (pv 1) pa_nil)))) pa_nil)))))))) (pss_one (ps_ret pe_bl)) pss_nil)
      (pss_one (ps_ret (pe_c0 CAs hr (by omega) (by rfl) (pa_cons (pe_lc (own := [("one", 1)]) (g := (gName 1)) (tt := tYes) rfl S.nd (pi_tup (pv 0)) (blkOk_by (N := ["value", "one"]) (sc := defScope s_faces) (by decide +kernel)) (fun _ _ _ _ _ => (pg_name (i := 1) S.nd rfl (Or.inl rfl))) (fun _ _ _ _ _ => pts_nil) (fun _ _ _ _ _ => (pe_ix (show IxR _ (rIxT K) from ix_tup) (pv 1) pe_int (fun _ _ => rfl)))) pa_nil))))), ?_⟩
    try dsimp only [cxOf, Cx.nox, Cx.wish]
    walk_at "w"
    refine r_isiTup hv ?_
    walk_at "w"
    have q0 := q H (fun _ _ h => h)
    refine if_by (fun h => ?_) (fun h => ?_)
    · have e : isTup d = false := by simpa using h
      walk_at "w"
      rw [(no_tup e rightSt).2.2.2.1] at q0
      exact q0
    obtain ⟨pl, rfl⟩ : ∃ ds, d = .tuple ds := by cases d <;> simp [isTup] at h ⊢
    obtain ⟨c, zs, rfl, hc, hrp⟩ := Rel.of_tup hv
    have hzl := hrp.1
    walk_at "w"
    refine r_len (.inr (.of hc)) rfl ?_
    walk_at "w"
    refine if_by (fun h => ?_) (fun h => ?_)
    · walk_at "w"
      have h' : (40 : Int) < (zs.length : Int) := of_decide_eq_true h
      have hn : ¬ pl.length ≤ 40 := by omega
      rw [show facesD (.tuple pl) = false by rw [facesD, decide_eq_false hn]; rfl] at q0
      exact q0
    have hn : pl.length ≤ 40 := by
      have h' : ¬ (40 : Int) < (zs.length : Int) := of_decide_eq_false h
      omega
    clear q0
    walk_at "w"
    refine k_lcT (.of hc) (lcT (xs := zs) (fun i acc D H' => Ex H H' ∧ acc = ((pl.take i).map faceD).map V.bl) (fun D H3 _ e _ => ⟨e, rfl⟩) (fun i acc D H' _ p => .of (p.1 _ _ hc)) (fun i x acc D H' hx hlt hD hacc p => ?_) (fun acc D H3 _ hD hacc p => ?_))
    · obtain ⟨e, rfl⟩ := p
      obtain ⟨d, hd⟩ := get_of_len hzl hx
      have hi : i < pl.length := (List.getElem?_eq_some_iff.mp hd).1
      have hm := List.mem_of_getElem? hd
      walk_at "w"
      refine ⟨M, x, d, rfl, (hrp.2 i x d hx hd).ex e, fine.mono (fine.tup_in (n := 61) hf hm) (by decide), fun H4 e4 => ?_⟩
      refine k_lc (e4 _ _ hacc) hlt (by omega) fun H5 h5 k5 => ⟨Ex.mut (e.trans e4) hD k5, ?_⟩
      rw [take_map_more hd, List.map_append]; rfl
    obtain ⟨e3, rfl⟩ := p
    rw [hzl, List.take_length] at hacc
    have hc3 := e3 _ _ hc
    refine r_all hacc ?_
    walk_at "w"
    have ea : (pl.map faceD).all id = pl.all faceD := by rw [List.all_map]; rfl
    rw [ea]
    refine if_by (fun h => ?_) (fun h => ?_)
    · walk_at "w"
      have q' := q H3 e3
      rw [show facesD (.tuple pl) = false by rw [facesD, show pl.all faceD = false by simpa using h]; simp] at q'
      exact q'
    have hall : pl.all faceD = true := by simpa using h
    have hall' := List.all_eq_true.mp hall
    walk_at "w"
    refine k_lcT (.of hc3) (lcT (xs := zs) (fun i acc D H' => Ex H3 H' ∧ acc = ((pl.take i).map secS).map V.str) (fun D H4 _ e _ => ⟨e, rfl⟩) (fun i acc D H' _ p => .of (p.1 _ _ hc3)) (fun i x acc D H' hx hlt hD hacc p => ?_) (fun acc D H4 _ hD hacc p => ?_))
    · obtain ⟨e, rfl⟩ := p
      obtain ⟨d, hd⟩ := get_of_len hzl hx
      have hi : i < pl.length := (List.getElem?_eq_some_iff.mp hd).1
      obtain ⟨u1, u2, u3, u4, rfl, hnm⟩ := face_sec (hall' d (List.mem_of_getElem? hd))
      obtain ⟨g, gs, rfl, hg, hrg⟩ := Rel.of_tup ((hrp.2 i x _ hx hd).ex (e3.trans e))
      obtain ⟨w1, r1, rfl, dw1, hr1⟩ := hrg.head
      obtain ⟨w2, r2, rfl, dw2, hr2⟩ := hr1.head
      rw [name_str hnm] at dw2
      cases dw2
      walk_at "w"
      refine r_ixT (.of hg) (v := .str (strOf u2)) (atI_nn (j := 1) rfl rfl) ?_
      refine k_lc hacc hlt (by omega) fun H5 h5 k5 => ⟨Ex.mut e hD k5, ?_⟩
      rw [take_map_more hd, List.map_append]; rfl
    obtain ⟨e4, rfl⟩ := p
    rw [hzl, List.take_length] at hacc
    walk_at "w"
    refine ⟨D, pl.map secS, rfl, .inr hacc, by rw [List.length_map]; omega, fun H5 e5 => ?_⟩
    have q' := q H5 ((e3.trans e4).trans e5)
    rw [show facesD (.tuple pl) = risS (pl.map secS) by rw [facesD, decide_eq_true hn, hall, Bool.true_and, Bool.true_and]] at q'
    exact q'
end
end BkL
end
section
namespace BkL
open PySem PySem.Spec L2 BkG TL
local macro_rules | `(tactic| walk_at "w1") => `(tactic| first
  | with_reducible refine w_seq ?_ | with_reducible refine w_set ?_ | with_reducible refine w_ret ?_ | with_reducible refine w_drop ?_ | with_reducible refine w_ifS ?_
  | with_reducible refine w_next ?_ | with_reducible refine w_c ?_ | ((with_reducible refine' w_var ?hv ?_); (case hv => rfl)) | with_reducible refine w_op ?_ | with_reducible refine w_cons ?_ | with_reducible refine w_nil ?_
  | with_reducible refine w_cb ?_ | with_reducible refine w_call ?_ | with_reducible refine w_tup ?_ | with_reducible refine w_lst ?_ | with_reducible refine w_bm ?_ | with_reducible refine w_bm0 ?_ | with_reducible refine w_un ?_
  | with_reducible refine w_test ?_ | with_reducible refine w_B ?_ | with_reducible refine k_B ?_ | with_reducible refine w_and ?_ | with_reducible refine w_or ?_ | with_reducible refine w_not ?_ | with_reducible refine w_if ?_
  | with_reducible refine w_andV ?_ | with_reducible refine w_orV ?_ | with_reducible refine w_notV ?_ | with_reducible refine k_andV ?_ | with_reducible refine k_orV ?_ | with_reducible refine k_notV ?_
  | with_reducible refine w_chain ?_ | with_reducible refine ex_bl ?_ | with_reducible refine w_isN ?_ | with_reducible refine w_notN ?_ | with_reducible refine w_yes ?_
  | with_reducible refine r_I0 ?_ | with_reducible refine r_U ?_ | with_reducible refine r_eqI ?_ | with_reducible refine r_neI ?_ | with_reducible refine r_eqS ?_ | with_reducible refine r_neS ?_ | with_reducible refine r_eqB ?_ | with_reducible refine r_neB ?_
  | with_reducible refine r_abs ?_ | with_reducible refine r_int ?_ | with_reducible refine r_intB ?_
  | with_reducible refine w_sl ?_ | with_reducible refine w_nop ?_ | with_reducible refine w_part ?_ | with_reducible refine k_part ?_ | with_reducible refine w_revL ?_
  | with_reducible refine w_asg ?_ | with_reducible refine w_gname ?_ | with_reducible refine w_gsub ?_ | with_reducible refine w_gnil ?_ | with_reducible refine w_gcons ?_ | with_reducible refine w_retN ?_ | with_reducible refine w_brk ?_ | with_reducible refine w_cont ?_
  | with_reducible refine w_par ?_ | with_reducible refine w_par3 ?_ | with_reducible refine par_ok ?_ | with_reducible refine par_ok3 ?_ | ((with_reducible refine' w_aug ?hv ?_); (case hv => rfl)) | with_reducible refine i_I ?_
  | with_reducible refine w_forL ?_ | with_reducible refine w_forT ?_ | with_reducible refine w_forR1 ?_ | with_reducible refine w_forE ?_ | with_reducible refine w_lcL ?_ | with_reducible refine w_lcT ?_ | with_reducible refine w_lcR ?_
  | ((with_reducible refine a_tup ?hz ?_); (case hz => exact Nat.le_of_ble_eq_true rfl); intro _ _ _ _ _) | ((with_reducible refine a_lst ?hz ?_); (case hz => exact Nat.le_of_ble_eq_true rfl); intro _ _ _ _ _)
  | ((with_reducible refine k_turn1 ?hw ?_); (case hw => rfl)) | ((with_reducible refine k_turn ?hw ?_); (case hw => rfl)) | with_reducible refine r_isV ?_ | with_reducible refine r_isNotV ?_ | with_reducible refine r_isN ?_ | with_reducible refine r_notN ?_ | with_reducible refine w_lcZ ?_
  | ((with_reducible refine r_I ?hc ?_); (case hc => first | decide | assumption))
  | with_reducible refine w_forET ?_
  | ((with_reducible refine w_dnewK ?_); intro _ _ _ _ _) | with_reducible refine w_dput ?_ | with_reducible refine w_lstRg ?_ | with_reducible refine w_lstZip ?_ | with_reducible refine w_callK ?_
  | (with_reducible refine if_pos' ?_) | (with_reducible refine if_neg' ?_))
local macro_rules | `(tactic| walk_at "w") => `(tactic| repeat (walk_at "w1"))

section
variable {P : Program} {w : World} {K : PySem.W.Frag} {mg : Str → Option Value} {base : Heap}
abbrev s_lisint : Stmt := topS 49
theorem sc_lisint : FnScope ["value"] ["value"] (defScope s_lisint) := ⟨rfl, rfl, rfl, by decide +kernel, rfl, by decide +kernel, by decide +kernel⟩
theorem C_lisint (F : Fn K mg "_law_is_int" s_lisint ["value"]) (Z : Bz mg) : Cal P w K mg base 1 "_law_is_int" spIntg := by
  have S := sc_lisint
  refine F.cal S (fun vs H Q E h => ?_) (fun f cdv A' outer s H vs Q E hr h => ?_)
  · obtain ⟨M, v, d, rfl, _⟩ := h; rfl
  · obtain ⟨M, v, d, rfl, hv, q⟩ := h
    refine ⟨_, (pss_one (ps_ret (pe_and (pe_callB call_isi (by rfl) Z.isinstance (by decide +kernel) (pa_cons (pv 0) (pa_cons (pe_bltn (v := .ty "int") (by rfl) Z.int (by decide +kernel) rfl) pa_nil))) (pe_one (pe_not (pe_callB call_isi (by rfl) Z.isinstance (by decide +kernel) (pa_cons (pv 0) (pa_cons (pe_bltn (v := .ty "bool") (by rfl) Z.bool (by decide +kernel) rfl) pa_nil)))))))), ?_⟩
    try dsimp only [cxOf, Cx.nox, Cx.wish]
    walk_at "w"
    refine r_isiInt hv ?_
    walk_at "w"
    refine if_by (fun h => ?_) (fun h => ?_)
    · walk_at "w"
      refine r_isiBool hv ?_
      walk_at "w"
      have e : (!isBool d) = isIntg d := by cases d <;> simp [isInt, isBool, isIntg] at h ⊢
      rw [e]; exact q
    · have e : isIntg d = false := by cases d <;> simp [isInt, isIntg] at h ⊢
      rw [e] at q; exact q
abbrev s_lwidth : Stmt := topS 60
theorem sc_lwidth : FnScope ["value"] ["value"] (defScope s_lwidth) := ⟨rfl, rfl, rfl, by decide +kernel, rfl, by decide +kernel, by decide +kernel⟩
theorem C_lwidth (F : Fn K mg "_law_width" s_lwidth ["value"]) (Z : Bz mg) (CI : Cal P w K mg base 1 "_law_is_int" spIntg) : Cal P w K mg base 2 "_law_width" spWid := by
  have S := sc_lwidth
  refine F.cal S (fun vs H Q E h => ?_) (fun f cdv A' outer s H vs Q E hr h => ?_)
  · obtain ⟨M, v, d, rfl, _⟩ := h; rfl
  · obtain ⟨M, v, d, rfl, hv, q⟩ := h
    refine ⟨_, (pss_one (ps_ret (pe_and (pe_c0 CI hr (by omega) (by rfl) (pa_cons (pv 0) pa_nil)) (pe_one (pe_chain op_le op_le pe_int (pv 0) pe_int))))), ?_⟩
    try dsimp only [cxOf, Cx.nox, Cx.wish]
    walk_at "w"
    refine ⟨M, v, d, rfl, hv, ?_⟩
    walk_at "w"
    refine if_by (fun h => ?_) (fun h => ?_)
    · cases hv with
      | int n =>
        walk_at "w"
        by_cases h1 : (1 : Int) ≤ n
        · rw [decide_eq_true h1]
          walk_at "w"
          have e : isWid (.int n) = decide (n ≤ 64) := by simp [isWid, h1]
          rw [e] at q; exact q
        · rw [decide_eq_false h1]
          walk_at "w"
          have e : isWid (.int n) = false := by simp [isWid, h1]
          rw [e] at q; exact q
      | _ => simp [isIntg] at h
    · have e : isWid d = false := by cases d <;> simp [isWid, isIntg] at h ⊢
      rw [e] at q; exact q
abbrev s_rising : Stmt := topS 61
theorem sc_rising : FnScope ["some", "one", "other"] ["some"] (defScope s_rising) := ⟨rfl, rfl, rfl, by decide +kernel, rfl, by decide +kernel, by decide +kernel⟩
theorem C_rising (F : Fn K mg "_law_rising" s_rising ["some"]) (Z : Bz mg) : Cal P w K mg base 1 "_law_rising" (spRis K) := by
  have S := sc_rising
  refine F.cal S (fun vs H Q E h => ?_) (fun f cdv A' outer s H vs Q E hr h => ?_)
  · obtain ⟨a, ss, rfl, _⟩ := h; rfl
  · obtain ⟨a, ss, rfl, ha, hl, q⟩ := h
    refine ⟨_, (pss_one (ps_ret (pe_cmpR (op_eqD hr.units) (pe_lc (own := [("one", 1), ("other", 2)]) (g := (gTup K 2 (gCons (gName 1) (gCons (gName 2) gNil)))) rfl S.nd (RZ.pi_zipA (by rfl) Z.zip (pa_cons (pv 0) (pa_cons (pe_slice (SlR.or sl_tupA sl_list) (pv 0) (po_some pe_int) po_none) pa_nil))) (blkOk_by (N := ["some", "one", "other"]) (sc := defScope s_rising) (by decide +kernel)) (fun _ _ _ _ _ => (pg_tup rfl (pgs_cons (pg_name (i := 1) S.nd rfl (Or.inl rfl)) (pgs_cons (pg_name (i := 2) S.nd rfl (Or.inl rfl)) pgs_nil)))) (fun _ _ _ _ _ => (pts_one (pt_not (pt_cmpR op_lt_str (pv 1) (pv 2) (nomark _))))) (fun _ _ _ _ _ => pe_int)) (pe_lst pa_nil) (nomark _)))), ?_⟩
    try dsimp only [cxOf, Cx.nox, Cx.wish]
    have zl : (ss.zip (ss.drop 1)).length = (ss.drop 1).length := by rw [List.length_zip, List.length_drop]; omega
    have fin : ∀ {D p5 : Addr} {H' : Hp}, H' D = some (.lst (zerosV (fun d => match d with | .tuple [.str a, .str b] => ltS a b | _ => false) ((ss.zip (ss.drop 1)).map fun p => PyData.tuple [.str p.1, .str p.2]))) → H' p5 = some (.lst []) → Q (.bl (risS ss)) H' → rEqD K (.ref D) (.ref p5) H' Q := fun h h5 q' => by
      refine eq_zeros h h5 (by rw [List.length_map, zl, List.length_drop]; omega) ?_
      rw [List.all_map]
      exact q'
    have step : ∀ {i : Nat} {x y : Str}, (ss.zip (ss.drop 1))[i]? = some (x, y) → ((ss.zip (ss.drop 1)).map fun p => PyData.tuple [.str p.1, .str p.2])[i]? = some (.tuple [.str x, .str y]) := fun h => by rw [List.getElem?_map, h]; rfl
    generalize hds : ((ss.zip (ss.drop 1)).map fun p => PyData.tuple [.str p.1, .str p.2]) = ds at fin step
    have dl : ds.length = (ss.drop 1).length := by rw [← hds, List.length_map, zl]
    generalize hf : (fun d => match d with | PyData.tuple [.str a, .str b] => ltS a b | _ => false) = f at fin
    have fv : ∀ x y : Str, f (.tuple [.str x, .str y]) = ltS x y := fun x y => by rw [← hf]
    walk_at "w"
    rcases ha with ha | ha
    · refine .inl (r_slT ha fun p1 H1 e1 h1 => ?_)
      rw [show ((1 : Int)) = ((1 : Nat) : Int) from rfl, cut_from2, tail_map] at h1
      walk_at "w"
      refine ⟨a, p1, ss.map V.str, (ss.drop 1).map V.str, rfl, .inr ⟨.of (e1 _ _ ha), .of h1, ?_⟩⟩
      refine lcZT2 (by simp) (fun i acc D H' => Ex H1 H' ∧ acc = zerosV f (ds.take i))
        (fun D H3 _ e3 _ => ⟨e3, rfl⟩) (fun i acc D H' _ p => ⟨.of (p.1 _ _ (e1 _ _ ha)), .of (p.1 _ _ h1)⟩) (fun i x y acc D H' T H3 hx hy hlt hD hacc p e3 hT => ?_) (fun acc D H' _ hD hacc p => ?_)
      · obtain ⟨e4, rfl⟩ := p
        obtain ⟨x, y, rfl, rfl, hz⟩ := zip_at hx hy
        have hi := (List.getElem?_eq_some_iff.mp hz).1
        rw [zl, List.length_drop] at hi
        refine w_gtup (.of hT) rfl ?_
        refine w_gcons (w_gname (w_gcons (w_gname (w_gnil ?_))))
        walk_at "w"
        refine ⟨x, y, rfl, rfl, ?_⟩
        walk_at "w"
        refine if_by (fun h => ?_) (fun h => ?_)
        · walk_at "w"
          have h' : ltS x y = false := by
            have h2 : (!ltS x y) = true := h
            simpa using h2
          refine k_lc hacc hlt (by omega) fun H5 h5 k5 => ⟨Ex.mut (e4.trans e3) hD k5, ?_⟩
          rw [zeros_yes (step hz) ((fv x y).trans h')]
        · have h' : ltS x y = true := by
            have h2 : (!ltS x y) = false := h
            simpa using h2
          refine k_lcN hacc hlt ⟨e4.trans e3, ?_⟩
          rw [zeros_no (step hz) ((fv x y).trans h')]
      · obtain ⟨e4, rfl⟩ := p
        rw [List.length_map, List.take_of_length_le (by omega)] at hacc
        walk_at "w"
        rename_i p5 H5 hp5 e5 h5
        exact fin (e5 _ _ hacc) h5 (q H5 ((e1.trans e4).trans e5))
    · refine .inr (r_slL (.of ha) fun p1 H1 _ e1 h1 => ?_)
      rw [show ((1 : Int)) = ((1 : Nat) : Int) from rfl, cut_from2, tail_map] at h1
      walk_at "w"
      refine ⟨a, p1, ss.map V.str, (ss.drop 1).map V.str, rfl, .inl ⟨.of (e1 _ _ ha), .of h1, ?_⟩⟩
      refine lcZL2 (by simp) (fun i acc D H' => Ex H1 H' ∧ acc = zerosV f (ds.take i))
        (fun D H3 _ e3 _ => ⟨e3, rfl⟩) (fun i acc D H' _ p => ⟨.of (p.1 _ _ (e1 _ _ ha)), .of (p.1 _ _ h1)⟩) (fun i x y acc D H' T H3 hx hy hlt hD hacc p e3 hT => ?_) (fun acc D H' _ hD hacc p => ?_)
      · obtain ⟨e4, rfl⟩ := p
        obtain ⟨x, y, rfl, rfl, hz⟩ := zip_at hx hy
        have hi := (List.getElem?_eq_some_iff.mp hz).1
        rw [zl, List.length_drop] at hi
        refine w_gtup (.of hT) rfl ?_
        refine w_gcons (w_gname (w_gcons (w_gname (w_gnil ?_))))
        walk_at "w"
        refine ⟨x, y, rfl, rfl, ?_⟩
        walk_at "w"
        refine if_by (fun h => ?_) (fun h => ?_)
        · walk_at "w"
          have h' : ltS x y = false := by
            have h2 : (!ltS x y) = true := h
            simpa using h2
          refine k_lc hacc hlt (by omega) fun H5 h5 k5 => ⟨Ex.mut (e4.trans e3) hD k5, ?_⟩
          rw [zeros_yes (step hz) ((fv x y).trans h')]
        · have h' : ltS x y = true := by
            have h2 : (!ltS x y) = false := h
            simpa using h2
          refine k_lcN hacc hlt ⟨e4.trans e3, ?_⟩
          rw [zeros_no (step hz) ((fv x y).trans h')]
      · obtain ⟨e4, rfl⟩ := p
        rw [List.length_map, List.take_of_length_le (by omega)] at hacc
        walk_at "w"
        rename_i p5 H5 hp5 e5 h5
        exact fin (e5 _ _ hacc) h5 (q H5 ((e1.trans e4).trans e5))
abbrev s_rnames : Stmt := topS 56
theorem sc_rnames : FnScope ["some", "name"] ["some"] (defScope s_rnames) := ⟨rfl, rfl, rfl, by decide +kernel, rfl, by decide +kernel, by decide +kernel⟩
theorem C_rnames (F : Fn K mg "_law_right_names" s_rnames ["some"]) (Z : Bz mg) (Zset : mg "set" = none) (CNm : Cal P w K mg base 1 "_law_is_name" spName) : Cal P w K mg base 2 "_law_right_names" spRNames := by
  have S := sc_rnames
  refine F.cal S (fun vs H Q E h => ?_) (fun f cdv A' outer s H vs Q E hr h => ?_)
  · obtain ⟨M, a, xs, ds, rfl, _⟩ := h; rfl
  · obtain ⟨M, a, xs, ds, rfl, ha, hrel, hl, hf, q⟩ := h
    refine ⟨_, (pss_one (ps_ret (pe_and (pe_cmpR (op_eqD hr.units) (pe_lc (own := [("name", 1)]) (g := (gName 1)) rfl S.nd (pi_list (pv 0)) (blkOk_by (N := ["some", "name"]) (sc := defScope s_rnames) (by decide +kernel)) (fun _ _ _ _ _ => (pg_name (i := 1) S.nd rfl (Or.inl rfl))) (fun _ _ _ _ _ => (pts_one (pt_not (pt_val (pe_c0 CNm hr (by omega) (by rfl) (pa_cons (pv 1) pa_nil)))))) (fun _ _ _ _ _ => (pv 1))) (pe_lst pa_nil) (nomark _)) (pe_one (pe_cmpR op_eq (pe_lenSortSetT rfl (by rfl) Z.len (by rfl) Zset (by rfl) Z.sorted (pv 0)) (pe_callB (cr_len) (by rfl) Z.len (by decide +kernel) (pa_cons (pv 0) pa_nil)) (nomark _)))))), ?_⟩
    try dsimp only [cxOf, Cx.nox, Cx.wish]
    have hxl := hrel.1
    walk_at "w"
    refine k_lcL (.of ha) (lcL (xs := xs) (fun i acc D H' => Ex H H' ∧ Fails M H isNameD (ds.take i) acc) (fun D H2 _ e _ => ⟨e, Fails.nil⟩) (fun i acc D H' _ p => .of (p.1 _ _ ha)) (fun i x acc D H' hx hlt hD hacc p => ?_) (fun acc D H' _ hD hacc p => ?_))
    · obtain ⟨e, r⟩ := p
      obtain ⟨d, hd⟩ := get_of_len hxl hx
      have hi : i < ds.length := (List.getElem?_eq_some_iff.mp hd).1
      have dx := hrel.2 i x d hx hd
      have fd := hf d (List.mem_of_getElem? hd)
      walk_at "w"
      refine ⟨M, x, d, rfl, dx.ex e, fine.shortS fd, nice.mono (fine.nice fd) (by decide), fun H3 e3 => ?_⟩
      walk_at "w"
      refine if_by (fun h => ?_) (fun h => ?_)
      · walk_at "w"
        refine k_lc (e3 _ _ hacc) hlt (by omega) fun H5 h5 k5 => ⟨Ex.mut (e.trans e3) hD k5, r.yes hd (by simpa using h) dx⟩
      · exact k_lcN (e3 _ _ hacc) hlt ⟨e.trans e3, r.no hd (by simpa using h)⟩
    · obtain ⟨e, r⟩ := p
      rw [hxl, List.take_length] at r
      walk_at "w"
      rename_i p5 H5 hp5 e5 h5
      refine eq_fails r (e.trans e5) (e5 _ _ hacc) h5 (fun d hd => fine.mono (hf d hd) (by decide)) ?_
      walk_at "w"
      refine if_by (fun h => ?_) (fun h => ?_)
      · have hxs := rel_strs hrel fun d hd => name_str (List.all_eq_true.mp h d hd)
        subst hxs
        have ha5 := (e.trans e5) _ _ ha
        walk_at "w"
        refine w_lenSetT ?_
        walk_at "w"
        refine k_lenSetT ha5 (by rw [List.length_map]; omega) fun m hm1 hm2 => ?_
        walk_at "w"
        refine r_len (.inl (.of ha5)) rfl ?_
        have q' := q H5 (e.trans e5)
        rw [h, Bool.true_and, show unlike (ds.map strOf) = decide (((m : Nat) : Int) = (((ds.map strOf).map V.str).length : Int)) by
          rw [unlike]
          refine decide_eq_decide.mpr ?_
          rw [← hm2]
          simp only [List.length_map]
          omega] at q'
        walk_at "w"
        exact q'
      · have q' := q H5 (e.trans e5)
        rw [h, Bool.false_and] at q'
        exact q'
end
end BkL
end
section
namespace BkL
open PySem PySem.Spec L2 BkG TL
local macro_rules | `(tactic| walk_at "w1") => `(tactic| first
  | with_reducible refine w_seq ?_ | with_reducible refine w_set ?_ | with_reducible refine w_ret ?_ | with_reducible refine w_drop ?_ | with_reducible refine w_ifS ?_
  | with_reducible refine w_next ?_ | with_reducible refine w_c ?_ | ((with_reducible refine' w_var ?hv ?_); (case hv => rfl)) | with_reducible refine w_op ?_ | with_reducible refine w_cons ?_ | with_reducible refine w_nil ?_
  | with_reducible refine w_cb ?_ | with_reducible refine w_call ?_ | with_reducible refine w_tup ?_ | with_reducible refine w_lst ?_ | with_reducible refine w_bm ?_ | with_reducible refine w_bm0 ?_ | with_reducible refine w_un ?_
  | with_reducible refine w_test ?_ | with_reducible refine w_B ?_ | with_reducible refine k_B ?_ | with_reducible refine w_and ?_ | with_reducible refine w_or ?_ | with_reducible refine w_not ?_ | with_reducible refine w_if ?_
  | with_reducible refine w_andV ?_ | with_reducible refine w_orV ?_ | with_reducible refine w_notV ?_ | with_reducible refine k_andV ?_ | with_reducible refine k_orV ?_ | with_reducible refine k_notV ?_
  | with_reducible refine w_chain ?_ | with_reducible refine ex_bl ?_ | with_reducible refine w_isN ?_ | with_reducible refine w_notN ?_ | with_reducible refine w_yes ?_
  | with_reducible refine r_I0 ?_ | with_reducible refine r_U ?_ | with_reducible refine r_eqI ?_ | with_reducible refine r_neI ?_ | with_reducible refine r_eqS ?_ | with_reducible refine r_neS ?_ | with_reducible refine r_eqB ?_ | with_reducible refine r_neB ?_
  | with_reducible refine r_abs ?_ | with_reducible refine r_int ?_ | with_reducible refine r_intB ?_
  | with_reducible refine w_sl ?_ | with_reducible refine w_nop ?_ | with_reducible refine w_part ?_ | with_reducible refine k_part ?_ | with_reducible refine w_revL ?_
  | with_reducible refine w_asg ?_ | with_reducible refine w_gname ?_ | with_reducible refine w_gsub ?_ | with_reducible refine w_gnil ?_ | with_reducible refine w_gcons ?_ | with_reducible refine w_retN ?_ | with_reducible refine w_brk ?_ | with_reducible refine w_cont ?_
  | with_reducible refine w_par ?_ | with_reducible refine w_par3 ?_ | with_reducible refine par_ok ?_ | with_reducible refine par_ok3 ?_ | ((with_reducible refine' w_aug ?hv ?_); (case hv => rfl)) | with_reducible refine i_I ?_
  | with_reducible refine w_forL ?_ | with_reducible refine w_forT ?_ | with_reducible refine w_forR1 ?_ | with_reducible refine w_forE ?_ | with_reducible refine w_lcL ?_ | with_reducible refine w_lcT ?_ | with_reducible refine w_lcR ?_
  | ((with_reducible refine a_tup ?hz ?_); (case hz => exact Nat.le_of_ble_eq_true rfl); intro _ _ _ _ _) | ((with_reducible refine a_lst ?hz ?_); (case hz => exact Nat.le_of_ble_eq_true rfl); intro _ _ _ _ _)
  | ((with_reducible refine k_turn1 ?hw ?_); (case hw => rfl)) | ((with_reducible refine k_turn ?hw ?_); (case hw => rfl)) | with_reducible refine r_isV ?_ | with_reducible refine r_isNotV ?_ | with_reducible refine r_isN ?_ | with_reducible refine r_notN ?_ | with_reducible refine w_lcZ ?_
  | ((with_reducible refine r_I ?hc ?_); (case hc => first | decide | assumption))
  | with_reducible refine w_forET ?_
  | ((with_reducible refine w_dnewK ?_); intro _ _ _ _ _) | with_reducible refine w_dput ?_ | with_reducible refine w_lstRg ?_ | with_reducible refine w_lstZip ?_ | with_reducible refine w_callK ?_
  | (with_reducible refine if_pos' ?_) | (with_reducible refine if_neg' ?_))
local macro_rules | `(tactic| walk_at "w") => `(tactic| repeat (walk_at "w1"))

def fstD : PyData → PyData
  | .tuple (a :: _) => a
  | _ => .none
def sndD : PyData → PyData
  | .tuple (_ :: b :: _) => b
  | _ => .none
def twoD : PyData → Bool
  | .tuple ds => decide (ds.length = 2)
  | _ => false
theorem two_of2 {d : PyData} (h : twoD d = true) : ∃ a b, d = .tuple [a, b] := by
  cases d with
  | tuple ds =>
    obtain ⟨a, b, rfl⟩ := len2 (of_decide_eq_true (show decide (ds.length = 2) = true from h))
    exact ⟨a, b, rfl⟩
  | _ => cases h
theorem pair_two {d : PyData} (h : twoD d = true) : pairKN d = (isKindD (fstD d) && isNameD (sndD d)) := by
  obtain ⟨a, b, rfl⟩ := two_of2 h; rfl
theorem sec_two {d : PyData} (h : twoD d = true) : secS d = strOf (sndD d) := by
  obtain ⟨a, b, rfl⟩ := two_of2 h; rfl
theorem all_and {α : Type} {f g : α → Bool} : ∀ {l : List α}, (l.all fun x => f x && g x) = (l.all f && l.all g)
  | [] => rfl
  | x :: l => by
    rw [List.all_cons, List.all_cons, List.all_cons, all_and]
    cases f x <;> cases g x <;> cases l.all f <;> cases l.all g <;> rfl
theorem kinds_len {ps : List PyData} (hl : ps.length ≤ 20) : areKindsD (.tuple (ps.map fstD)) = ps.all fun d => isKindD (fstD d) := by
  have : areKindsD (.tuple (ps.map fstD)) = (decide ((ps.map fstD).length ≤ 20) && (ps.map fstD).all isKindD) := rfl
  rw [this, List.length_map, decide_eq_true hl, Bool.true_and, List.all_map]; rfl
theorem parms_two {ps : List PyData} (hl : ps.length ≤ 20) (h : ∀ d ∈ ps, twoD d = true) : parmsD (.tuple ps) = (areKindsD (.tuple (ps.map fstD)) && ((ps.map sndD).all isNameD && unlike ((ps.map sndD).map strOf))) := by
  rw [parmsD, decide_eq_true hl, Bool.true_and, kinds_len hl, List.all_map, List.map_map]
  have e1 : ps.all pairKN = (ps.all (fun d => isKindD (fstD d)) && ps.all (isNameD ∘ sndD)) := by
    rw [← all_and]
    exact all_congr fun d hd => pair_two (h d hd)
  have e2 : ps.map secS = ps.map (strOf ∘ sndD) := List.map_congr_left fun d hd => sec_two (h d hd)
  rw [e1, e2, Bool.and_assoc]
theorem parms_one {ps : List PyData} {d : PyData} (hd : d ∈ ps) (h : pairKN d = false) : parmsD (.tuple ps) = false := by
  have : ps.all pairKN = false := by
    rw [List.all_eq_false]
    exact ⟨d, hd, by rw [h]; exact Bool.false_ne_true⟩
  rw [parmsD, this, Bool.false_and, Bool.and_false]
theorem not_two {d : PyData} (h : twoD d = false) : pairKN d = false := by
  cases d with
  | tuple ds => exact pairKN_len (of_decide_eq_false (show decide (ds.length = 2) = false from h))
  | _ => rfl
theorem all_false {f : PyData → Bool} {ds : List PyData} (h : ds.all f = false) : ∃ d ∈ ds, f d = false := by
  rw [List.all_eq_false] at h
  obtain ⟨d, hd, h⟩ := h
  exact ⟨d, hd, by simpa using h⟩
section
variable {P : Program} {w : World} {K : PySem.W.Frag} {mg : Str → Option Value} {base : Heap}
abbrev s_lkinds : Stmt := topS 57
theorem sc_lkinds : FnScope ["value", "one"] ["value"] (defScope s_lkinds) := ⟨rfl, rfl, rfl, by decide +kernel, rfl, by decide +kernel, by decide +kernel⟩
theorem C_lkinds (F : Fn K mg "_law_are_kinds" s_lkinds ["value"]) (Z : Bz mg) : Cal P w K mg base 1 "_law_are_kinds" (spB 63 areKindsD) := by
  have S := sc_lkinds
  refine F.cal S (fun vs H Q E h => ?_) (fun f cdv A' outer s H vs Q E hr h => ?_)
  · obtain ⟨M, v, d, rfl, _⟩ := h; rfl
  · obtain ⟨M, v, d, rfl, hv, hf, q⟩ := h
    refine ⟨_, (pss_one (ps_ret (pe_and (pe_callB call_isi (by rfl) Z.isinstance (by decide +kernel) (pa_cons (pv 0) (pa_cons (pe_bltn (v := .ty "tuple") (by rfl) Z.tuple (by decide +kernel) rfl) pa_nil))) (pe_and (pe_cmpR op_le (pe_callB (cr_len) (by rfl) Z.len (by decide +kernel) (pa_cons (pv 0) pa_nil)) pe_int (nomark _)) (pe_one (pe_cmpR (op_eqD hr.units) (pe_lc (own := [("one", 1)]) (g := (gName 1)) rfl S.nd (pi_tup (pv 0)) (blkOk_by (N := ["value", "one"]) (sc := defScope s_lkinds) (by decide +kernel)) (fun _ _ _ _ _ => (pg_name (i := 1) S.nd rfl (Or.inl rfl))) (fun _ _ _ _ _ => (pts_one (PW.pt (pw_or (pt_not (pt_val (pe_callB (show CallR _ (.builtin "isinstance") (rIsi K) from call_isi) (by rfl) Z.isinstance (by decide +kernel) (pa_cons (pv 1) (pa_cons (pe_bltn (v := .ty "str") (by rfl) Z.str (by decide +kernel) rfl) pa_nil))))) (pw_or1 (pt_cmpR (show OpR _ (compareOp .NotIn) (rIn K true) from op_notIn_seq) (pv 1) (pe_lst (pa_cons pe_str (pa_cons pe_str (pa_cons pe_str (pa_cons pe_str (pa_cons pe_str pa_nil)))))) (by rfl))))))) (fun _ _ _ _ _ => (pv 1))) (pe_lst pa_nil) (nomark _))))))), ?_⟩
    try dsimp only [cxOf, Cx.nox, Cx.wish]
    walk_at "w"
    refine r_isiTup hv ?_
    walk_at "w"
    refine if_by (fun h => ?_) (fun h => ?_)
    rotate_left
    · have q' := q H (fun _ _ h => h)
      rw [(no_tup (by simpa using h) rightSt).2.2.2.2.2.2.2.2.2.2] at q'
      exact q'
    obtain ⟨ds, rfl⟩ : ∃ ds, d = .tuple ds := by cases d <;> simp [isTup] at h ⊢
    obtain ⟨a, xs, rfl, ha, hrel⟩ := Rel.of_tup hv
    have hxl := hrel.1
    have ek : areKindsD (.tuple ds) = (decide (ds.length ≤ 20) && ds.all isKindD) := rfl
    walk_at "w"
    refine r_len (.inr (.of ha)) rfl ?_
    walk_at "w"
    have hi20 : decide ((xs.length : Int) ≤ 20) = decide (ds.length ≤ 20) := decide_eq_decide.mpr (by omega)
    rw [hi20]
    refine if_by (fun h20 => ?_) (fun h20 => ?_)
    rotate_left
    · have q' := q H (fun _ _ h => h)
      rw [ek, h20, Bool.false_and] at q'
      exact q'
    have hn := of_decide_eq_true h20
    walk_at "w"
    refine k_lcT (.of ha) (lcT (xs := xs) (fun i acc D H' => Ex H H' ∧ Fails M H isKindD (ds.take i) acc) (fun D H2 _ e _ => ⟨e, Fails.nil⟩) (fun i acc D H' _ p => .of (p.1 _ _ ha)) (fun i x acc D H' hx hlt hD hacc p => ?_) (fun acc D H' _ hD hacc p => ?_))
    · obtain ⟨e, r⟩ := p
      obtain ⟨d, hd⟩ := get_of_len hxl hx
      have hi : i < ds.length := (List.getElem?_eq_some_iff.mp hd).1
      have dx := hrel.2 i x d hx hd
      walk_at "w"
      refine r_isiStr (dx.ex e) ?_
      walk_at "w"
      refine if_by (fun h => ?_) (fun h => ?_)
      · have e' : isStr d = false := by simpa using h
        walk_at "w"
        refine k_lc hacc hlt (by omega) fun H5 h5 k5 => ⟨Ex.mut e hD k5, r.yes hd ?_ dx⟩
        cases d <;> first | rfl | (simp [isStr] at e'; done)
      obtain ⟨s, rfl⟩ : ∃ s, d = .str s := by cases d <;> simp [isStr] at h ⊢
      cases dx
      walk_at "w"
      rename_i p1 H1 hp1 e1 h1
      refine r_notin (.inl (.of h1)) rfl (by rfl) ?_
      walk_at "w"
      refine if_by (fun h => ?_) (fun h => ?_)
      · walk_at "w"
        have h' : isKindD (.str s) = false := by
          have h2 : (!inV (.str s) kindsV) = true := h
          have h3 : inV (.str s) kindsV = false := by simpa using h2
          exact h3
        refine k_lc (e1 _ _ hacc) hlt (by omega) fun H5 h5 k5 => ⟨Ex.mut (e.trans e1) hD k5, r.yes hd h' (.str s)⟩
      · have h' : isKindD (.str s) = true := by
          have h2 : (!inV (.str s) kindsV) = false := h
          have h3 : inV (.str s) kindsV = true := by simpa using h2
          exact h3
        exact k_lcN (e1 _ _ hacc) hlt ⟨e.trans e1, r.no hd h'⟩
    · obtain ⟨e, r⟩ := p
      rw [hxl, List.take_length] at r
      walk_at "w"
      rename_i p5 H5 hp5 e5 h5
      obtain ⟨m, hm⟩ := fine.pos hf
      refine eq_fails r (e.trans e5) (e5 _ _ hacc) h5 (fun d hd => fine.mono (fine.tup_in (n := 62) hf hd) (by decide)) ?_
      have q' := q H5 (e.trans e5)
      rw [ek, h20, Bool.true_and] at q'
      exact q'
abbrev s_skips : Stmt := topS 58
theorem sc_skips : FnScope ["value", "one"] ["value"] (defScope s_skips) := ⟨rfl, rfl, rfl, by decide +kernel, rfl, by decide +kernel, by decide +kernel⟩
theorem C_skips (F : Fn K mg "_law_skips" s_skips ["value"]) (Z : Bz mg) (n : Nat) : Cal P w K mg base (n + 1) "_law_skips" (spSkips n) := by
  induction n with
  | zero => exact F.cal sc_skips (fun vs H Q E h => h.elim) (fun f cdv A' outer s H vs Q E hr h => h.elim)
  | succ n ih =>
  have S := sc_skips
  refine F.cal S (fun vs H Q E h => ?_) (fun f cdv A' outer s H vs Q E hr h => ?_)
  · obtain ⟨M, v, d, rfl, _⟩ := h; rfl
  · obtain ⟨M, v, d, rfl, hv, hf, hn62, q⟩ := h
    refine ⟨_, (pss_cons (ps_if (PW.pt (pw_or (pt_not (pt_val (pe_callB call_isi (by rfl) Z.isinstance (by decide +kernel) (pa_cons (pv 0) (pa_cons (pe_bltn (v := .ty "tuple") (by rfl) Z.tuple (by decide +kernel) rfl) pa_nil))))) (pw_or (pt_cmpR (op_eqD hr.units) (pv 0) (pe_tup pa_nil) (nomark _)) (pw_or1 (pt_not (pt_val (pe_callB call_isi (by rfl) Z.isinstance (by decide +kernel) (pa_cons (pe_ix ix_tup (pv 0) pe_int (fun _ _ => rfl)) (pa_cons (pe_bltn (v := .ty "str") (by rfl) Z.str (by decide +kernel) rfl) pa_nil))))))))) (pss_one (ps_ret pe_bl)) pss_nil)
      (pss_cons (ps_if (PW.pt (pw_and (pt_cmpR op_eq (pe_ix ix_tup (pv 0) pe_int (fun _ _ => rfl)) pe_str (nomark _)) (pw_and (pt_cmpR op_eq (pe_callB (cr_len) (by rfl) Z.len (by decide +kernel) (pa_cons (pv 0) pa_nil)) pe_int (nomark _)) (pw_and1 (pt_val (pe_callB call_isi (by rfl) Z.isinstance (by decide +kernel) (pa_cons (pe_ix ix_tup (pv 0) pe_int (fun _ _ => rfl)) (pa_cons (pe_bltn (v := .ty "tuple") (by rfl) Z.tuple (by decide +kernel) rfl) pa_nil)))))))) (pss_one (ps_ret (pe_cmpR (op_eqD hr.units) (pe_lc (own := [("one", 1)]) (g := (gName 1)) rfl S.nd (pi_tup (pe_ix ix_tup (pv 0) pe_int (fun _ _ => rfl))) (blkOk_by (N := ["value", "one"]) (sc := defScope s_skips) (by decide +kernel)) (fun _ _ _ _ _ => (pg_name (i := 1) S.nd rfl (Or.inl rfl))) (fun _ _ _ _ _ => (pts_one (pt_not (pt_val (pe_c0 ih hr (by omega) (by rfl) (pa_cons (pv 1) pa_nil)))))) (fun _ _ _ _ _ => pe_int)) (pe_lst pa_nil) (nomark _)))) pss_nil)
      (pss_one (ps_ret (pe_cmpR (op_eqD hr.units) (pv 0) (pe_tup (pa_cons pe_str pa_nil)) (nomark _)))))), ?_⟩
    try dsimp only [cxOf, Cx.nox, Cx.wish]
    walk_at "w"
    refine r_isiTup hv ?_
    walk_at "w"
    have q0 := q H (fun _ _ h => h)
    refine if_by (fun h => ?_) (fun h => ?_)
    · have e : isTup d = false := by simpa using h
      walk_at "w"
      cases d <;> first | (simp [isTup] at e; done) | exact q0
    obtain ⟨ds, rfl⟩ : ∃ ds, d = .tuple ds := by cases d <;> simp [isTup] at h ⊢
    obtain ⟨a, xs, rfl, ha, hr'⟩ := Rel.of_tup hv
    clear q0
    have fn := fine.nice hf
    walk_at "w"
    rename_i p1 H1 hp1 e1 h1
    refine r_eqD2' (hv.ex e1) (dv_nilT h1) (nice.mono fn (by omega)) (by decide +kernel) ?_
    rw [eqv_nilT]
    walk_at "w"
    refine if_by (fun h => ?_) (fun h => ?_)
    · have h0 : ds = [] := by simpa using h
      subst h0
      walk_at "w"
      exact q H1 e1
    obtain ⟨d0, as, rfl⟩ : ∃ x r, ds = x :: r := by
      rcases ds with _ | ⟨x, r⟩
      · cases h
      · exact ⟨_, _, rfl⟩
    obtain ⟨x0, xr, rfl, hx0, hr1⟩ := hr'.head
    have ha1 := e1 _ _ ha
    walk_at "w"
    refine r_ixT (.of ha1) (v := x0) (atI_nn (j := 0) rfl rfl) ?_
    walk_at "w"
    refine r_isiStr (hx0.ex e1) ?_
    walk_at "w"
    refine if_by (fun h => ?_) (fun h => ?_)
    · have e : isStr d0 = false := by simpa using h
      walk_at "w"
      have q' := q H1 e1
      cases d0 <;> first | (simp [isStr] at e; done) | exact q'
    obtain ⟨w, rfl⟩ : ∃ w, d0 = .str w := by cases d0 <;> simp [isStr] at h ⊢
    cases hx0
    have eqn : ∀ {H2 p2 : Hp → Prop} , True := fun {_ _} => trivial
    have last : (¬ (w = "row" ∧ ∃ es, as = [.tuple es])) → skipsD (.tuple (.str w :: as)) = (decide (w = "skip") && as.isEmpty) := fun hno => by
      rw [skipsD]
      unfold skT
      split
      · next w' es e =>
        cases e
        have : ¬ w = "row" := fun z => hno ⟨z, es, rfl⟩
        simp [this]
      · next w' e => cases e; simp
      · next n1 n2 =>
        cases as with
        | nil => exact absurd rfl (n2 w)
        | cons y r => simp
    have finish : ∀ {H2 : Hp} {p2 : Addr}, Ex H1 H2 → H2 p2 = some (.tup [V.str "skip"]) → (¬ (w = "row" ∧ ∃ es, as = [.tuple es])) → rEqD K (.ref a) (.ref p2) H2 Q := fun {H2 p2} e2 h2 hno => by
      refine r_eqD2' ((hv.ex e1).ex e2) (Rel.tup (M := M) (Rel.one (.str _)) h2) (nice.mono fn (by omega)) (by decide +kernel) ?_
      rw [eqv_skip, ← last hno]
      exact q H2 (e1.trans e2)
    walk_at "w"
    refine r_ixT (.of ha1) (v := .str w) (atI_nn (j := 0) rfl rfl) ?_
    walk_at "w"
    refine if_by (fun h => ?_) (fun h => ?_)
    rotate_left
    · have hw : ¬ w = "row" := of_decide_eq_false h
      walk_at "w"
      rename_i p2 H2 hp2 e2 h2
      exact finish e2 h2 fun z => hw z.1
    have hw : w = "row" := of_decide_eq_true h
    walk_at "w"
    refine r_len (.inr (.of ha1)) rfl ?_
    walk_at "w"
    refine if_by (fun h => ?_) (fun h => ?_)
    rotate_left
    · have h' : (((V.str w :: xr).length : Nat) : Int) ≠ 2 := of_decide_eq_false h
      walk_at "w"
      rename_i p2 H2 hp2 e2 h2
      exact finish e2 h2 fun z => by
        obtain ⟨_, es, rfl⟩ := z
        have := hr1.1
        rw [List.length_cons] at h'
        simp at this
        omega
    have h2l : (((V.str w :: xr).length : Nat) : Int) = 2 := of_decide_eq_true h
    obtain ⟨d1, rfl⟩ : ∃ d1, as = [d1] := by
      have := hr1.1
      rw [List.length_cons] at h2l
      exact List.length_eq_one_iff.mp (by omega)
    obtain ⟨x1, x2, rfl, hx1, hr2⟩ := hr1.head
    obtain rfl := hr2.none
    walk_at "w"
    refine r_ixT (.of ha1) (v := x1) (atI_nn (j := 1) rfl rfl) ?_
    walk_at "w"
    refine r_isiTup (hx1.ex e1) ?_
    walk_at "w"
    refine if_by (fun h => ?_) (fun h => ?_)
    rotate_left
    · have e : isTup d1 = false := by simpa using h
      walk_at "w"
      rename_i p2 H2 hp2 e2 h2
      exact finish e2 h2 fun z => by
        obtain ⟨_, es, z⟩ := z
        cases z
        cases e
    obtain ⟨es, rfl⟩ : ∃ es, d1 = .tuple es := by cases d1 <;> simp [isTup] at h ⊢
    obtain ⟨b, ys, rfl, hb, hre⟩ := Rel.of_tup hx1
    have hb1 := e1 _ _ hb
    have hyl := hre.1
    obtain ⟨m, rfl⟩ := fine.pos hf
    have hf1 : fine m (.tuple es) = true := fine.tup_in hf (by simp)
    obtain ⟨m, rfl⟩ := fine.pos hf1
    have hel := fine.len hf1
    walk_at "w"
    refine r_ixT (.of ha1) (v := .ref b) (atI_nn (j := 1) rfl rfl) ?_
    walk_at "w"
    refine k_lcT (.of hb1) (lcT (xs := ys) (fun i acc D H' => Ex H1 H' ∧ acc = zerosV skipsD (es.take i)) (fun D H2 _ e _ => ⟨e, rfl⟩) (fun i acc D H' _ p => .of (p.1 _ _ hb1)) (fun i x acc D H' hx hlt hD hacc p => ?_) (fun acc D H' _ hD hacc p => ?_))
    · obtain ⟨e, rfl⟩ := p
      obtain ⟨d, hd⟩ := get_of_len hyl hx
      have hi : i < es.length := (List.getElem?_eq_some_iff.mp hd).1
      walk_at "w"
      refine ⟨M, x, d, rfl, ((hre.2 i x d hx hd).ex e1).ex e, fine.mono (fine.tup_in hf1 (List.mem_of_getElem? hd)) (by omega), by omega, fun H3 e3 => ?_⟩
      walk_at "w"
      refine if_by (fun h => ?_) (fun h => ?_)
      · walk_at "w"
        refine k_lc (e3 _ _ hacc) hlt (by omega) fun H5 h5 k5 => ⟨Ex.mut (e.trans e3) hD k5, ?_⟩
        rw [zeros_yes hd (by simpa using h)]
      · refine k_lcN (e3 _ _ hacc) hlt ⟨e.trans e3, ?_⟩
        rw [zeros_no hd (by simpa using h)]
    · obtain ⟨e, rfl⟩ := p
      rw [hyl, List.take_length] at hacc
      walk_at "w"
      rename_i p5 H5 hp5 e5 h5
      refine eq_zeros (e5 _ _ hacc) h5 (by omega) ?_
      have q' := q H5 ((e1.trans e).trans e5)
      rw [show skipsD (.tuple [.str w, .tuple es]) = es.all skipsD by rw [skipsD, skT, decide_eq_true hw, Bool.true_and, skAll_iff]] at q'
      exact q'
end
end BkL
end
section
namespace BkL
open PySem PySem.Spec L2 BkG TL
local macro_rules | `(tactic| walk_at "w1") => `(tactic| first
  | with_reducible refine w_seq ?_ | with_reducible refine w_set ?_ | with_reducible refine w_ret ?_ | with_reducible refine w_drop ?_ | with_reducible refine w_ifS ?_
  | with_reducible refine w_next ?_ | with_reducible refine w_c ?_ | ((with_reducible refine' w_var ?hv ?_); (case hv => rfl)) | with_reducible refine w_op ?_ | with_reducible refine w_cons ?_ | with_reducible refine w_nil ?_
  | with_reducible refine w_cb ?_ | with_reducible refine w_call ?_ | with_reducible refine w_tup ?_ | with_reducible refine w_lst ?_ | with_reducible refine w_bm ?_ | with_reducible refine w_bm0 ?_ | with_reducible refine w_un ?_
  | with_reducible refine w_test ?_ | with_reducible refine w_B ?_ | with_reducible refine k_B ?_ | with_reducible refine w_and ?_ | with_reducible refine w_or ?_ | with_reducible refine w_not ?_ | with_reducible refine w_if ?_
  | with_reducible refine w_andV ?_ | with_reducible refine w_orV ?_ | with_reducible refine w_notV ?_ | with_reducible refine k_andV ?_ | with_reducible refine k_orV ?_ | with_reducible refine k_notV ?_
  | with_reducible refine w_chain ?_ | with_reducible refine ex_bl ?_ | with_reducible refine w_isN ?_ | with_reducible refine w_notN ?_ | with_reducible refine w_yes ?_
  | with_reducible refine r_I0 ?_ | with_reducible refine r_U ?_ | with_reducible refine r_eqI ?_ | with_reducible refine r_neI ?_ | with_reducible refine r_eqS ?_ | with_reducible refine r_neS ?_ | with_reducible refine r_eqB ?_ | with_reducible refine r_neB ?_
  | with_reducible refine r_abs ?_ | with_reducible refine r_int ?_ | with_reducible refine r_intB ?_
  | with_reducible refine w_sl ?_ | with_reducible refine w_nop ?_ | with_reducible refine w_part ?_ | with_reducible refine k_part ?_ | with_reducible refine w_revL ?_
  | with_reducible refine w_asg ?_ | with_reducible refine w_gname ?_ | with_reducible refine w_gsub ?_ | with_reducible refine w_gnil ?_ | with_reducible refine w_gcons ?_ | with_reducible refine w_retN ?_ | with_reducible refine w_brk ?_ | with_reducible refine w_cont ?_
  | with_reducible refine w_par ?_ | with_reducible refine w_par3 ?_ | with_reducible refine par_ok ?_ | with_reducible refine par_ok3 ?_ | ((with_reducible refine' w_aug ?hv ?_); (case hv => rfl)) | with_reducible refine i_I ?_
  | with_reducible refine w_forL ?_ | with_reducible refine w_forT ?_ | with_reducible refine w_forR1 ?_ | with_reducible refine w_forE ?_ | with_reducible refine w_lcL ?_ | with_reducible refine w_lcT ?_ | with_reducible refine w_lcR ?_
  | ((with_reducible refine a_tup ?hz ?_); (case hz => exact Nat.le_of_ble_eq_true rfl); intro _ _ _ _ _) | ((with_reducible refine a_lst ?hz ?_); (case hz => exact Nat.le_of_ble_eq_true rfl); intro _ _ _ _ _)
  | ((with_reducible refine k_turn1 ?hw ?_); (case hw => rfl)) | ((with_reducible refine k_turn ?hw ?_); (case hw => rfl)) | with_reducible refine r_isV ?_ | with_reducible refine r_isNotV ?_ | with_reducible refine r_isN ?_ | with_reducible refine r_notN ?_ | with_reducible refine w_lcZ ?_
  | ((with_reducible refine r_I ?hc ?_); (case hc => first | decide | assumption))
  | with_reducible refine w_forET ?_
  | ((with_reducible refine w_dnewK ?_); intro _ _ _ _ _) | with_reducible refine w_dput ?_ | with_reducible refine w_lstRg ?_ | with_reducible refine w_lstZip ?_ | with_reducible refine w_callK ?_
  | (with_reducible refine if_pos' ?_) | (with_reducible refine if_neg' ?_))
local macro_rules | `(tactic| walk_at "w") => `(tactic| repeat (walk_at "w1"))

section
variable {P : Program} {w : World} {K : PySem.W.Frag} {mg : Str → Option Value} {base : Heap}
abbrev s_rproc : Stmt := topS 59
theorem sc_rproc : FnScope ["value", "one"] ["value"] (defScope s_rproc) := ⟨rfl, rfl, rfl, by decide +kernel, rfl, by decide +kernel, by decide +kernel⟩
theorem C_rproc (F : Fn K mg "_law_right_proc" s_rproc ["value"]) (Z : Bz mg) (CS : Cal P w K mg base 64 "_law_same" (spSame 63)) (CNm : Cal P w K mg base 1 "_law_is_name" spName) (CLk : Cal P w K mg base 1 "_law_are_kinds" (spB 63 areKindsD)) (CRn : Cal P w K mg base 2 "_law_right_names" spRNames) (CSk : Cal P w K mg base 64 "_law_skips" (spSkips 63)) : Cal P w K mg base 65 "_law_right_proc" (spB 62 (procG skipsD)) := by
  have S := sc_rproc
  refine F.cal S (fun vs H Q E h => ?_) (fun f cdv A' outer s H vs Q E hr h => ?_)
  · obtain ⟨M, v, d, rfl, _⟩ := h; rfl
  · obtain ⟨M, v, d, rfl, hv, hf, q⟩ := h
    refine ⟨_, (pss_cons (ps_if (PW.pt (pw_or (pt_not (pt_val (pe_callB call_isi (by rfl) Z.isinstance (by decide +kernel) (pa_cons (pv 0) (pa_cons (pe_bltn (v := .ty "tuple") (by rfl) Z.tuple (by decide +kernel) rfl) pa_nil))))) (pw_or (pt_cmpR op_ne (pe_callB (cr_len) (by rfl) Z.len (by decide +kernel) (pa_cons (pv 0) pa_nil)) pe_int (nomark _)) (pw_or (pt_not (pt_val (pe_c0 CS hr (by omega) (by rfl) (pa_cons (pe_ix ix_tup (pv 0) pe_int (fun _ _ => rfl)) (pa_cons pe_str pa_nil))))) (pw_or (pt_not (pt_val (pe_c0 CNm hr (by omega) (by rfl) (pa_cons (pe_ix ix_tup (pv 0) pe_int (fun _ _ => rfl)) pa_nil)))) (pw_or1 (pt_not (pt_val (pe_callB call_isi (by rfl) Z.isinstance (by decide +kernel) (pa_cons (pe_ix ix_tup (pv 0) pe_int (fun _ _ => rfl)) (pa_cons (pe_bltn (v := .ty "tuple") (by rfl) Z.tuple (by decide +kernel) rfl) pa_nil))))))))))) (pss_one (ps_ret pe_bl)) pss_nil)
      (pss_cons (ps_if (PW.pt (pw_or (pt_cmpR (op_neD hr.units) (pe_lc (own := [("one", 1)]) (g := (gName 1)) rfl S.nd (pi_tup (pe_ix ix_tup (pv 0) pe_int (fun _ _ => rfl))) (blkOk_by (N := ["value", "one"]) (sc := defScope s_rproc) (by decide +kernel)) (fun _ _ _ _ _ => (pg_name (i := 1) S.nd rfl (Or.inl rfl))) (fun _ _ _ _ _ => (pts_one (PW.pt (pw_or (pt_not (pt_val (pe_callB (show CallR _ (.builtin "isinstance") (rIsi K) from call_isi) (by rfl) Z.isinstance (by decide +kernel) (pa_cons (pv 1) (pa_cons (pe_bltn (v := .ty "tuple") (by rfl) Z.tuple (by decide +kernel) rfl) pa_nil))))) (pw_or1 (pt_cmpR op_ne (pe_callB ((show CallR _ (.builtin "len") (rLen K) from cr_len)) (by rfl) Z.len (by decide +kernel) (pa_cons (pv 1) pa_nil)) pe_int (nomark _))))))) (fun _ _ _ _ _ => pe_int)) (pe_lst pa_nil) (nomark _)) (pw_or1 (pt_cmpR op_gt (pe_callB (cr_len) (by rfl) Z.len (by decide +kernel) (pa_cons (pe_ix ix_tup (pv 0) pe_int (fun _ _ => rfl)) pa_nil)) pe_int (nomark _))))) (pss_one (ps_ret pe_bl)) pss_nil)
      (pss_cons (ps_if (PW.pt (pw_or (pt_not (pt_val (pe_c0 CLk hr (by omega) (by rfl) (pa_cons (pe_callTy (call_tuple_of) (by rfl) Z.tuple (by decide +kernel) (pa_cons (pe_lc (own := [("one", 1)]) (g := (gName 1)) (tt := tYes) rfl S.nd (pi_tup (pe_ix ix_tup (pv 0) pe_int (fun _ _ => rfl))) (blkOk_by (N := ["value", "one"]) (sc := defScope s_rproc) (by decide +kernel)) (fun _ _ _ _ _ => (pg_name (i := 1) S.nd rfl (Or.inl rfl))) (fun _ _ _ _ _ => pts_nil) (fun _ _ _ _ _ => (pe_ix (show IxR _ (rIxT K) from ix_tup) (pv 1) pe_int (fun _ _ => rfl)))) pa_nil)) pa_nil)))) (pw_or1 (pt_cmpR (op_neD hr.units) (pe_lc (own := [("one", 1)]) (g := (gName 1)) rfl S.nd (pi_tup (pe_ix ix_tup (pv 0) pe_int (fun _ _ => rfl))) (blkOk_by (N := ["value", "one"]) (sc := defScope s_rproc) (by decide +kernel)) (fun _ _ _ _ _ => (pg_name (i := 1) S.nd rfl (Or.inl rfl))) (fun _ _ _ _ _ => (pts_one (pt_not (pt_val (pe_callB (show CallR _ (.builtin "isinstance") (rIsi K) from call_isi) (by rfl) Z.isinstance (by decide +kernel) (pa_cons (pe_ix (show IxR _ (rIxT K) from ix_tup) (pv 1) pe_int (fun _ _ => rfl)) (pa_cons (pe_bltn (v := .ty "str") (by rfl) Z.str (by decide +kernel) rfl) pa_nil))))))) (fun _ _ _ _ _ => pe_int)) (pe_lst pa_nil) (nomark _))))) (pss_one (ps_ret pe_bl)) pss_nil)
      (pss_one (ps_ret (pe_and (pe_c0 CRn hr (by omega) (by rfl) (pa_cons (pe_lc (own := [("one", 1)]) (g := (gName 1)) (tt := tYes) rfl S.nd (pi_tup (pe_ix ix_tup (pv 0) pe_int (fun _ _ => rfl))) (blkOk_by (N := ["value", "one"]) (sc := defScope s_rproc) (by decide +kernel)) (fun _ _ _ _ _ => (pg_name (i := 1) S.nd rfl (Or.inl rfl))) (fun _ _ _ _ _ => pts_nil) (fun _ _ _ _ _ => (pe_ix (show IxR _ (rIxT K) from ix_tup) (pv 1) pe_int (fun _ _ => rfl)))) pa_nil)) (pe_one (pe_c0 CSk hr (by omega) (by rfl) (pa_cons (pe_ix ix_tup (pv 0) pe_int (fun _ _ => rfl)) pa_nil))))))))), ?_⟩
    try dsimp only [cxOf, Cx.nox, Cx.wish]
    walk_at "w"
    refine r_isiTup hv ?_
    walk_at "w"
    have q0 := q H (fun _ _ h => h)
    refine if_by (fun h => ?_) (fun h => ?_)
    · have e : isTup d = false := by simpa using h
      walk_at "w"
      rw [(no_tup e skipsD).1] at q0
      exact q0
    obtain ⟨ds, rfl⟩ : ∃ ds, d = .tuple ds := by cases d <;> simp [isTup] at h ⊢
    obtain ⟨a, xs, rfl, ha, hr'⟩ := Rel.of_tup hv
    walk_at "w"
    refine r_len (.inr (.of ha)) rfl ?_
    walk_at "w"
    refine if_by (fun h => ?_) (fun h => ?_)
    · walk_at "w"
      have h' : ((xs.length : Int)) ≠ 4 := by simpa using h
      rw [procG_len (by have := hr'.1; omega)] at q0
      exact q0
    obtain ⟨p, n, ps, b, rfl⟩ := len4 (l := ds) (by
      have h' : ((xs.length : Int)) = 4 := by simpa using h
      have := hr'.1; omega)
    obtain ⟨v1, r1, rfl, dv1, hr1⟩ := hr'.head
    obtain ⟨v2, r2, rfl, dv2, hr2⟩ := hr1.head
    obtain ⟨v3, r3, rfl, dv3, hr3⟩ := hr2.head
    obtain ⟨v4, r4, rfl, dv4, hr4⟩ := hr3.head
    obtain rfl := hr4.none
    have sub : ∀ e ∈ [p, n, ps, b], fine 61 e = true := fun e he => fine.tup_in (n := 61) hf he
    clear q0
    replace q : ∀ H', Ex H H' → Q (.bl (strIs p "proc" && (isNameD n && (parmsD ps && skipsD b)))) H' := q
    walk_at "w"
    refine r_ixT (.of ha) (v := v1) rfl ?_
    walk_at "w"
    refine ⟨M, v1, _, p, _, rfl, dv1, .str _, okD.mono (by decide) (nice.ok (fine.nice (sub p (by simp)))), fun H1 e1 => ?_⟩
    rw [smD_str]
    walk_at "w"
    refine if_by (fun h => ?_) (fun h => ?_)
    · walk_at "w"
      have q' := q H1 e1
      rw [show strIs p "proc" = false by simpa using h] at q'
      exact q'
    rw [show strIs p "proc" = true by simpa using h] at q
    walk_at "w"
    refine r_ixT (.of (e1 _ _ ha)) (v := v2) rfl ?_
    walk_at "w"
    refine ⟨M, v2, n, rfl, dv2.ex e1, fine.shortS (sub n (by simp)), nice.mono (fine.nice (sub n (by simp))) (by decide), fun H2 e2 => ?_⟩
    have e12 := e1.trans e2
    walk_at "w"
    refine if_by (fun h => ?_) (fun h => ?_)
    · walk_at "w"
      have q' := q H2 e12
      rw [show isNameD n = false by simpa using h] at q'
      exact q'
    rw [show isNameD n = true by simpa using h] at q
    replace q : ∀ H', Ex H H' → Q (.bl (parmsD ps && skipsD b)) H' := q
    have ha2 := e12 _ _ ha
    walk_at "w"
    refine r_ixT (.of ha2) (v := v3) rfl ?_
    walk_at "w"
    refine r_isiTup (dv3.ex e12) ?_
    walk_at "w"
    refine if_by (fun h => ?_) (fun h => ?_)
    · have e : isTup ps = false := by simpa using h
      walk_at "w"
      have q' := q H2 e12
      rw [(no_tup e skipsD).2.2.2.2.2.2.1] at q'
      exact q'
    obtain ⟨pl, rfl⟩ : ∃ pl, ps = .tuple pl := by cases ps <;> simp [isTup] at h ⊢
    obtain ⟨c, zs, rfl, hc, hrp⟩ := Rel.of_tup dv3
    have hc2 := e12 _ _ hc
    have hzl := hrp.1
    have fps := sub (.tuple pl) (by simp)
    have hpl := fine.len fps
    walk_at "w"
    refine r_ixT (.of ha2) (v := .ref c) rfl ?_
    walk_at "w"
    refine k_lcT (.of hc2) (lcT (xs := zs) (fun i acc D H' => Ex H2 H' ∧ acc = zerosV twoD (pl.take i)) (fun D H3 _ e _ => ⟨e, rfl⟩) (fun i acc D H' _ p => .of (p.1 _ _ hc2)) (fun i x acc D H' hx hlt hD hacc p => ?_) (fun acc D H3 _ hD hacc p => ?_))
    · obtain ⟨e, rfl⟩ := p
      obtain ⟨d, hd⟩ := get_of_len hzl hx
      have hi : i < pl.length := (List.getElem?_eq_some_iff.mp hd).1
      have dx := ((hrp.2 i x d hx hd).ex e12).ex e
      walk_at "w"
      refine r_isiTup dx ?_
      walk_at "w"
      refine if_by (fun h => ?_) (fun h => ?_)
      · have e' : isTup d = false := by simpa using h
        walk_at "w"
        refine k_lc hacc hlt (by omega) fun H5 h5 k5 => ⟨Ex.mut e hD k5, ?_⟩
        rw [zeros_yes hd (by cases d <;> first | rfl | (simp [isTup] at e'; done))]
      obtain ⟨es, rfl⟩ : ∃ es, d = .tuple es := by cases d <;> simp [isTup] at h ⊢
      obtain ⟨g, gs, rfl, hg, hrg⟩ := Rel.of_tup dx
      walk_at "w"
      refine r_len (.inr (.of hg)) rfl ?_
      walk_at "w"
      refine if_by (fun h => ?_) (fun h => ?_)
      · have h' : ((gs.length : Int)) ≠ 2 := by simpa using h
        walk_at "w"
        refine k_lc hacc hlt (by omega) fun H5 h5 k5 => ⟨Ex.mut e hD k5, ?_⟩
        rw [zeros_yes hd (by
          have := hrg.1
          exact decide_eq_false (by omega))]
      · have h' : ((gs.length : Int)) = 2 := by simpa using h
        refine k_lcN hacc hlt ⟨e, ?_⟩
        rw [zeros_no hd (by
          have := hrg.1
          exact decide_eq_true (by omega))]
    obtain ⟨e3, rfl⟩ := p
    rw [hzl, List.take_length] at hacc
    walk_at "w"
    rename_i p5 H5 hp5 e5 h5
    refine ne_zeros (e5 _ _ hacc) h5 (by omega) ?_
    have e15 := (e12.trans e3).trans e5
    walk_at "w"
    refine if_by (fun h => ?_) (fun h => ?_)
    · walk_at "w"
      have q' := q H5 e15
      obtain ⟨d, hd, hb⟩ := all_false (f := twoD) (ds := pl) (by simpa using h)
      rw [parms_one hd (not_two hb)] at q'
      exact q'
    have h2 : ∀ d ∈ pl, twoD d = true := List.all_eq_true.mp (by simpa using h)
    have ha5 := e15 _ _ ha
    have hc5 := e15 _ _ hc
    walk_at "w"
    refine r_ixT (.of ha5) (v := .ref c) rfl ?_
    walk_at "w"
    refine r_len (.inr (.of hc5)) rfl ?_
    walk_at "w"
    refine if_by (fun h => ?_) (fun h => ?_)
    · walk_at "w"
      have h' : (20 : Int) < (zs.length : Int) := of_decide_eq_true h
      have q' := q H5 e15
      rw [show parmsD (.tuple pl) = false by rw [parmsD, decide_eq_false (by omega)]; rfl] at q'
      exact q'
    have h20 : pl.length ≤ 20 := by
      have h' : ¬ (20 : Int) < (zs.length : Int) := of_decide_eq_false h
      omega
    rw [parms_two h20 h2] at q
    have two : ∀ {i : Nat} {x : V} {d : PyData} {H' : Hp}, zs[i]? = some x → pl[i]? = some d → Ex H H' → ∃ g y z, x = .ref g ∧ H' g = some (.tup [y, z]) ∧ Dv M H y (fstD d) ∧ Dv M H z (sndD d) ∧ fine 59 (fstD d) = true ∧ fine 59 (sndD d) = true := fun {i x d H'} hx hd e => by
      obtain ⟨u1, u2, rfl⟩ := two_of2 (h2 d (List.mem_of_getElem? hd))
      obtain ⟨g, gs, rfl, hg, hrg⟩ := Rel.of_tup (hrp.2 i x _ hx hd)
      obtain ⟨w1, r1, rfl, dw1, hr1⟩ := hrg.head
      obtain ⟨w2, r2, rfl, dw2, hr2⟩ := hr1.head
      obtain rfl := hr2.none
      have f1 : fine 60 (.tuple [u1, u2]) = true := fine.tup_in (n := 60) fps (List.mem_of_getElem? hd)
      exact ⟨g, w1, w2, rfl, e _ _ hg, dw1, dw2, (show fine 59 u1 = true from fine.tup_in (n := 59) f1 (by simp)), (show fine 59 u2 = true from fine.tup_in (n := 59) f1 (by simp))⟩
    walk_at "w"
    refine r_ixT (.of ha5) (v := .ref c) rfl ?_
    walk_at "w"
    refine k_lcT (.of hc5) (lcT (xs := zs) (fun i acc D H' => Ex H5 H' ∧ Rel M H acc ((pl.take i).map fstD)) (fun D H3 _ e _ => ⟨e, Rel.nil⟩) (fun i acc D H' _ p => .of (p.1 _ _ hc5)) (fun i x acc D H' hx hlt hD hacc p => ?_) (fun acc D H6 _ hD hacc p => ?_))
    · obtain ⟨e, r⟩ := p
      obtain ⟨d, hd⟩ := get_of_len hzl hx
      have hi : i < pl.length := (List.getElem?_eq_some_iff.mp hd).1
      obtain ⟨g, y, z, rfl, hg, dy, dz, _, _⟩ := two hx hd (e15.trans e)
      walk_at "w"
      refine r_ixT (.of hg) (v := y) rfl ?_
      refine k_lc hacc hlt (by omega) fun H5 h5 k5 => ⟨Ex.mut e hD k5, ?_⟩
      rw [take_map_more hd]
      exact r.append (Rel.one dy)
    obtain ⟨e6, rK⟩ := p
    rw [hzl, List.take_length] at rK
    have hal : acc.length ≤ 20 := by rw [rK.1, List.length_map]; exact h20
    walk_at "w"
    refine ⟨D, acc, rfl, .inl ⟨.of hacc, fun pt hpt => ?_⟩⟩
    have e7 := Ex.new (o := .tup acc) hpt
    have h7 : upd H6 pt (.tup acc) pt = _ := upd_same
    generalize upd H6 pt (.tup acc) = H7 at e7 h7 ⊢
    have e17 := (e15.trans e6).trans e7
    walk_at "w"
    refine ⟨M, .ref pt, _, rfl, (rK.ex e17).tup h7, fine.mono (fine.tup (n := 59) (by rw [List.length_map]; omega) fun d hd => ?_) (by decide), fun H8 e8 => ?_⟩
    · obtain ⟨d', hd', rfl⟩ := List.mem_map.mp hd
      obtain ⟨i, hi⟩ := List.getElem?_of_mem hd'
      obtain ⟨x, hx⟩ := get_of_len hzl.symm hi
      obtain ⟨_, _, _, _, _, _, _, f1, _⟩ := two hx hi (fun _ _ h => h)
      exact f1
    have e18 := e17.trans e8
    walk_at "w"
    refine if_by (fun h => ?_) (fun h => ?_)
    · walk_at "w"
      have q' := q H8 e18
      rw [show areKindsD (.tuple (pl.map fstD)) = false by simpa using h] at q'
      exact q'
    rw [show areKindsD (.tuple (pl.map fstD)) = true by simpa using h] at q
    have ha8 := e18 _ _ ha
    have hc8 := e18 _ _ hc
    walk_at "w"
    refine r_ixT (.of ha8) (v := .ref c) rfl ?_
    walk_at "w"
    refine k_lcT (.of hc8) (lcT (xs := zs) (fun i acc D H' => Ex H8 H' ∧ acc = zerosV (fun d => isStr (sndD d)) (pl.take i)) (fun D H3 _ e _ => ⟨e, rfl⟩) (fun i acc D H' _ p => .of (p.1 _ _ hc8)) (fun i x acc D H' hx hlt hD hacc p => ?_) (fun acc D H9 _ hD hacc p => ?_))
    · obtain ⟨e, rfl⟩ := p
      obtain ⟨d, hd⟩ := get_of_len hzl hx
      have hi : i < pl.length := (List.getElem?_eq_some_iff.mp hd).1
      obtain ⟨g, y, z, rfl, hg, dy, dz, _, _⟩ := two hx hd (e18.trans e)
      walk_at "w"
      refine r_ixT (.of hg) (v := z) rfl ?_
      walk_at "w"
      refine r_isiStr (dz.ex (e18.trans e)) ?_
      walk_at "w"
      refine if_by (fun h => ?_) (fun h => ?_)
      · walk_at "w"
        refine k_lc hacc hlt (by omega) fun H5 h5 k5 => ⟨Ex.mut e hD k5, ?_⟩
        rw [zeros_yes hd (by simpa using h)]
      · refine k_lcN hacc hlt ⟨e, ?_⟩
        rw [zeros_no hd (by simpa using h)]
    obtain ⟨e9, rfl⟩ := p
    rw [hzl, List.take_length] at hacc
    walk_at "w"
    rename_i pA HA hpA eA hA
    refine ne_zeros (eA _ _ hacc) hA (by omega) ?_
    have e1A := (e18.trans e9).trans eA
    walk_at "w"
    refine if_by (fun h => ?_) (fun h => ?_)
    · walk_at "w"
      have q' := q HA e1A
      obtain ⟨d, hd, hb⟩ := all_false (f := fun d => isStr (sndD d)) (ds := pl) (by simpa using h)
      rw [show (pl.map sndD).all isNameD = false by
        rw [List.all_eq_false]
        refine ⟨sndD d, List.mem_map.mpr ⟨d, hd, rfl⟩, ?_⟩
        cases hs : sndD d <;> first | (simp [hs, isStr] at hb; done) | (simp [isNameD])] at q'
      exact q'
    have haA := e1A _ _ ha
    have hcA := e1A _ _ hc
    walk_at "w"
    refine r_ixT (.of haA) (v := .ref c) rfl ?_
    walk_at "w"
    refine k_lcT (.of hcA) (lcT (xs := zs) (fun i acc D H' => Ex HA H' ∧ Rel M H acc ((pl.take i).map sndD)) (fun D H3 _ e _ => ⟨e, Rel.nil⟩) (fun i acc D H' _ p => .of (p.1 _ _ hcA)) (fun i x acc D H' hx hlt hD hacc p => ?_) (fun acc D HB _ hD hacc p => ?_))
    · obtain ⟨e, r⟩ := p
      obtain ⟨d, hd⟩ := get_of_len hzl hx
      have hi : i < pl.length := (List.getElem?_eq_some_iff.mp hd).1
      obtain ⟨g, y, z, rfl, hg, dy, dz, _, _⟩ := two hx hd (e1A.trans e)
      walk_at "w"
      refine r_ixT (.of hg) (v := z) rfl ?_
      refine k_lc hacc hlt (by omega) fun H5 h5 k5 => ⟨Ex.mut e hD k5, ?_⟩
      rw [take_map_more hd]
      exact r.append (Rel.one dz)
    obtain ⟨eB, rN⟩ := p
    rw [hzl, List.take_length] at rN
    have e1B := e1A.trans eB
    walk_at "w"
    refine ⟨M, D, acc, pl.map sndD, rfl, hacc, rN.ex e1B, by rw [List.length_map]; omega, fun d hd => ?_, fun HC eC => ?_⟩
    · obtain ⟨d', hd', rfl⟩ := List.mem_map.mp hd
      obtain ⟨i, hi⟩ := List.getElem?_of_mem hd'
      obtain ⟨x, hx⟩ := get_of_len hzl.symm hi
      obtain ⟨_, _, _, _, _, _, _, _, f2⟩ := two hx hi (fun _ _ h => h)
      exact fine.mono f2 (by decide)
    have e1C := e1B.trans eC
    walk_at "w"
    cases hu : ((pl.map sndD).all isNameD && unlike ((pl.map sndD).map strOf)) with
    | false =>
      refine if_df (by rfl) ?_
      have q' := q HC e1C
      rw [hu] at q'
      exact q'
    | true =>
      refine if_dt (by rfl) ?_
      walk_at "w"
      refine r_ixT (.of (e1C _ _ ha)) (v := v4) rfl ?_
      walk_at "w"
      refine ⟨M, v4, b, rfl, dv4.ex e1C, fine.mono (sub b (by simp)) (by decide), by decide, fun HD eD => ?_⟩
      have q' := q HD (e1C.trans eD)
      rw [hu] at q'
      exact q'
end
end BkL
end
section
namespace BkL
open PySem PySem.Spec L2 BkG TL
local macro_rules | `(tactic| walk_at "w1") => `(tactic| first
  | with_reducible refine w_seq ?_ | with_reducible refine w_set ?_ | with_reducible refine w_ret ?_ | with_reducible refine w_drop ?_ | with_reducible refine w_ifS ?_
  | with_reducible refine w_next ?_ | with_reducible refine w_c ?_ | ((with_reducible refine' w_var ?hv ?_); (case hv => rfl)) | with_reducible refine w_op ?_ | with_reducible refine w_cons ?_ | with_reducible refine w_nil ?_
  | with_reducible refine w_cb ?_ | with_reducible refine w_call ?_ | with_reducible refine w_tup ?_ | with_reducible refine w_lst ?_ | with_reducible refine w_bm ?_ | with_reducible refine w_bm0 ?_ | with_reducible refine w_un ?_
  | with_reducible refine w_test ?_ | with_reducible refine w_B ?_ | with_reducible refine k_B ?_ | with_reducible refine w_and ?_ | with_reducible refine w_or ?_ | with_reducible refine w_not ?_ | with_reducible refine w_if ?_
  | with_reducible refine w_andV ?_ | with_reducible refine w_orV ?_ | with_reducible refine w_notV ?_ | with_reducible refine k_andV ?_ | with_reducible refine k_orV ?_ | with_reducible refine k_notV ?_
  | with_reducible refine w_chain ?_ | with_reducible refine ex_bl ?_ | with_reducible refine w_isN ?_ | with_reducible refine w_notN ?_ | with_reducible refine w_yes ?_
  | with_reducible refine r_I0 ?_ | with_reducible refine r_U ?_ | with_reducible refine r_eqI ?_ | with_reducible refine r_neI ?_ | with_reducible refine r_eqS ?_ | with_reducible refine r_neS ?_ | with_reducible refine r_eqB ?_ | with_reducible refine r_neB ?_
  | with_reducible refine r_abs ?_ | with_reducible refine r_int ?_ | with_reducible refine r_intB ?_
  | with_reducible refine w_sl ?_ | with_reducible refine w_nop ?_ | with_reducible refine w_part ?_ | with_reducible refine k_part ?_ | with_reducible refine w_revL ?_
  | with_reducible refine w_asg ?_ | with_reducible refine w_gname ?_ | with_reducible refine w_gsub ?_ | with_reducible refine w_gnil ?_ | with_reducible refine w_gcons ?_ | with_reducible refine w_retN ?_ | with_reducible refine w_brk ?_ | with_reducible refine w_cont ?_
  | with_reducible refine w_par ?_ | with_reducible refine w_par3 ?_ | with_reducible refine par_ok ?_ | with_reducible refine par_ok3 ?_ | ((with_reducible refine' w_aug ?hv ?_); (case hv => rfl)) | with_reducible refine i_I ?_
  | with_reducible refine w_forL ?_ | with_reducible refine w_forT ?_ | with_reducible refine w_forR1 ?_ | with_reducible refine w_forE ?_ | with_reducible refine w_lcL ?_ | with_reducible refine w_lcT ?_ | with_reducible refine w_lcR ?_
  | ((with_reducible refine a_tup ?hz ?_); (case hz => exact Nat.le_of_ble_eq_true rfl); intro _ _ _ _ _) | ((with_reducible refine a_lst ?hz ?_); (case hz => exact Nat.le_of_ble_eq_true rfl); intro _ _ _ _ _)
  | ((with_reducible refine k_turn1 ?hw ?_); (case hw => rfl)) | ((with_reducible refine k_turn ?hw ?_); (case hw => rfl)) | with_reducible refine r_isV ?_ | with_reducible refine r_isNotV ?_ | with_reducible refine r_isN ?_ | with_reducible refine r_notN ?_ | with_reducible refine w_lcZ ?_
  | ((with_reducible refine r_I ?hc ?_); (case hc => first | decide | assumption))
  | with_reducible refine w_forET ?_
  | ((with_reducible refine w_dnewK ?_); intro _ _ _ _ _) | with_reducible refine w_dput ?_ | with_reducible refine w_lstRg ?_ | with_reducible refine w_lstZip ?_ | with_reducible refine w_callK ?_
  | (with_reducible refine if_pos' ?_) | (with_reducible refine if_neg' ?_))
local macro_rules | `(tactic| walk_at "w") => `(tactic| repeat (walk_at "w1"))

theorem procsG_all {f : PyData → Bool} {pl : List PyData} (h : pl.all (procG f) = true) : ((pl.map sndD).all isNameD && unlike ((pl.map sndD).map strOf)) = unlike (pl.map secS) := by
  have e1 : ∀ d ∈ pl, isNameD (sndD d) = true ∧ strOf (sndD d) = secS d := fun d hd => by
    obtain ⟨p, n, ps, b, rfl, hn⟩ := proc_sec (List.all_eq_true.mp h d hd)
    exact ⟨hn, rfl⟩
  rw [List.all_map, List.map_map, show pl.all (isNameD ∘ sndD) = true from List.all_eq_true.mpr fun d hd => (e1 d hd).1, Bool.true_and, show pl.map (strOf ∘ sndD) = pl.map secS from List.map_congr_left fun d hd => (e1 d hd).2]
section
variable {P : Program} {w : World} {K : PySem.W.Frag} {mg : Str → Option Value} {base : Heap}
abbrev s_rmod : Stmt := topS 62
theorem sc_rmod : FnScope ["value", "one"] ["value"] (defScope s_rmod) := ⟨rfl, rfl, rfl, by decide +kernel, rfl, by decide +kernel, by decide +kernel⟩
theorem C_rmod (F : Fn K mg "_law_right_module" s_rmod ["value"]) (Z : Bz mg) (CS : Cal P w K mg base 64 "_law_same" (spSame 63)) (CNm : Cal P w K mg base 1 "_law_is_name" spName) (CRn : Cal P w K mg base 2 "_law_right_names" spRNames) (CWi : Cal P w K mg base 2 "_law_width" spWid) (CRi : Cal P w K mg base 1 "_law_rising" (spRis K)) (CRp : Cal P w K mg base 65 "_law_right_proc" (spB 62 (procG skipsD))) : Cal P w K mg base 66 "_law_right_module" (spB 62 (moduleG skipsD)) := by
  have S := sc_rmod
  refine F.cal S (fun vs H Q E h => ?_) (fun f cdv A' outer s H vs Q E hr h => ?_)
  · obtain ⟨M, v, d, rfl, _⟩ := h; rfl
  · obtain ⟨M, v, d, rfl, hv, hf, q⟩ := h
    refine ⟨_, (pss_cons (ps_if (PW.pt (pw_or (pt_not (pt_val (pe_callB call_isi (by rfl) Z.isinstance (by decide +kernel) (pa_cons (pv 0) (pa_cons (pe_bltn (v := .ty "tuple") (by rfl) Z.tuple (by decide +kernel) rfl) pa_nil))))) (pw_or (pt_cmpR op_ne (pe_callB (cr_len) (by rfl) Z.len (by decide +kernel) (pa_cons (pv 0) pa_nil)) pe_int (nomark _)) (pw_or (pt_not (pt_val (pe_c0 CS hr (by omega) (by rfl) (pa_cons (pe_ix ix_tup (pv 0) pe_int (fun _ _ => rfl)) (pa_cons pe_str pa_nil))))) (pw_or (pt_not (pt_val (pe_c0 CNm hr (by omega) (by rfl) (pa_cons (pe_ix ix_tup (pv 0) pe_int (fun _ _ => rfl)) pa_nil)))) (pw_or1 (pt_not (pt_val (pe_c0 CWi hr (by omega) (by rfl) (pa_cons (pe_ix ix_tup (pv 0) pe_int (fun _ _ => rfl)) pa_nil)))))))))) (pss_one (ps_ret pe_bl)) pss_nil)
      (pss_cons (ps_if (PW.pt (pw_or (pt_not (pt_val (pe_callB call_isi (by rfl) Z.isinstance (by decide +kernel) (pa_cons (pe_ix ix_tup (pv 0) pe_int (fun _ _ => rfl)) (pa_cons (pe_bltn (v := .ty "tuple") (by rfl) Z.tuple (by decide +kernel) rfl) pa_nil))))) (pw_or (pt_cmpR op_gt (pe_callB (cr_len) (by rfl) Z.len (by decide +kernel) (pa_cons (pe_ix ix_tup (pv 0) pe_int (fun _ _ => rfl)) pa_nil)) pe_int (nomark _)) (pw_or1 (pt_cmpR (op_neD hr.units) (pe_lc (own := [("one", 1)]) (g := (gName 1)) rfl S.nd (pi_tup (pe_ix ix_tup (pv 0) pe_int (fun _ _ => rfl))) (blkOk_by (N := ["value", "one"]) (sc := defScope s_rmod) (by decide +kernel)) (fun _ _ _ _ _ => (pg_name (i := 1) S.nd rfl (Or.inl rfl))) (fun _ _ _ _ _ => (pts_one (pt_not (pt_val (pe_c0 CNm hr (by omega) (by rfl) (pa_cons (pv 1) pa_nil)))))) (fun _ _ _ _ _ => pe_int)) (pe_lst pa_nil) (nomark _)))))) (pss_one (ps_ret pe_bl)) pss_nil)
      (pss_cons (ps_if (PW.pt (pw_or (pt_not (pt_val (pe_c0 CRi hr (by omega) (by rfl) (pa_cons (pe_ix ix_tup (pv 0) pe_int (fun _ _ => rfl)) pa_nil)))) (pw_or (pt_cmpR op_in_seq (pe_ix ix_tup (pv 0) pe_int (fun _ _ => rfl)) (pe_ix ix_tup (pv 0) pe_int (fun _ _ => rfl)) (by rfl)) (pw_or (pt_not (pt_val (pe_callB call_isi (by rfl) Z.isinstance (by decide +kernel) (pa_cons (pe_ix ix_tup (pv 0) pe_int (fun _ _ => rfl)) (pa_cons (pe_bltn (v := .ty "tuple") (by rfl) Z.tuple (by decide +kernel) rfl) pa_nil))))) (pw_or1 (pt_not (pt_chain op_le op_le pe_int (pe_callB (cr_len) (by rfl) Z.len (by decide +kernel) (pa_cons (pe_ix ix_tup (pv 0) pe_int (fun _ _ => rfl)) pa_nil)) pe_int))))))) (pss_one (ps_ret pe_bl)) pss_nil)
      (pss_one (ps_ret (pe_and (pe_cmpR (op_eqD hr.units) (pe_lc (own := [("one", 1)]) (g := (gName 1)) rfl S.nd (pi_tup (pe_ix ix_tup (pv 0) pe_int (fun _ _ => rfl))) (blkOk_by (N := ["value", "one"]) (sc := defScope s_rmod) (by decide +kernel)) (fun _ _ _ _ _ => (pg_name (i := 1) S.nd rfl (Or.inl rfl))) (fun _ _ _ _ _ => (pts_one (pt_not (pt_val (pe_c0 CRp hr (by omega) (by rfl) (pa_cons (pv 1) pa_nil)))))) (fun _ _ _ _ _ => pe_int)) (pe_lst pa_nil) (nomark _)) (pe_one (pe_c0 CRn hr (by omega) (by rfl) (pa_cons (pe_lc (own := [("one", 1)]) (g := (gName 1)) (tt := tYes) rfl S.nd (pi_tup (pe_ix ix_tup (pv 0) pe_int (fun _ _ => rfl))) (blkOk_by (N := ["value", "one"]) (sc := defScope s_rmod) (by decide +kernel)) (fun _ _ _ _ _ => (pg_name (i := 1) S.nd rfl (Or.inl rfl))) (fun _ _ _ _ _ => pts_nil) (fun _ _ _ _ _ => (pe_ix (show IxR _ (rIxT K) from ix_tup) (pv 1) pe_int (fun _ _ => rfl)))) pa_nil))))))))), ?_⟩
    try dsimp only [cxOf, Cx.nox, Cx.wish]
    walk_at "w"
    refine r_isiTup hv ?_
    walk_at "w"
    have q0 := q H (fun _ _ h => h)
    refine if_by (fun h => ?_) (fun h => ?_)
    · have e : isTup d = false := by simpa using h
      walk_at "w"
      rw [(no_tup e skipsD).2.1] at q0
      exact q0
    obtain ⟨ds, rfl⟩ : ∃ ds, d = .tuple ds := by cases d <;> simp [isTup] at h ⊢
    obtain ⟨a, xs, rfl, ha, hr'⟩ := Rel.of_tup hv
    walk_at "w"
    refine r_len (.inr (.of ha)) rfl ?_
    walk_at "w"
    refine if_by (fun h => ?_) (fun h => ?_)
    · walk_at "w"
      have h' : ((xs.length : Int)) ≠ 5 := by simpa using h
      rw [moduleG_len (by have := hr'.1; omega)] at q0
      exact q0
    obtain ⟨p, n, wd, nd, ps, rfl⟩ := len5 (l := ds) (by
      have h' : ((xs.length : Int)) = 5 := by simpa using h
      have := hr'.1; omega)
    obtain ⟨v1, r1, rfl, dv1, hr1⟩ := hr'.head
    obtain ⟨v2, r2, rfl, dv2, hr2⟩ := hr1.head
    obtain ⟨v3, r3, rfl, dv3, hr3⟩ := hr2.head
    obtain ⟨v4, r4, rfl, dv4, hr4⟩ := hr3.head
    obtain ⟨v5, r5, rfl, dv5, hr5⟩ := hr4.head
    obtain rfl := hr5.none
    have sub : ∀ e ∈ [p, n, wd, nd, ps], fine 61 e = true := fun e he => fine.tup_in (n := 61) hf he
    clear q0
    replace q : ∀ H', Ex H H' → Q (.bl (strIs p "module" && (isNameD n && (isWid wd && (needsD nd && (!nameIn n nd && procsG skipsD ps)))))) H' := q
    walk_at "w"
    refine r_ixT (.of ha) (v := v1) rfl ?_
    walk_at "w"
    refine ⟨M, v1, _, p, _, rfl, dv1, .str _, okD.mono (by decide) (nice.ok (fine.nice (sub p (by simp)))), fun H1 e1 => ?_⟩
    rw [smD_str]
    walk_at "w"
    refine if_by (fun h => ?_) (fun h => ?_)
    · walk_at "w"
      have q' := q H1 e1
      rw [show strIs p "module" = false by simpa using h] at q'
      exact q'
    rw [show strIs p "module" = true by simpa using h] at q
    walk_at "w"
    refine r_ixT (.of (e1 _ _ ha)) (v := v2) rfl ?_
    walk_at "w"
    refine ⟨M, v2, n, rfl, dv2.ex e1, fine.shortS (sub n (by simp)), nice.mono (fine.nice (sub n (by simp))) (by decide), fun H2 e2 => ?_⟩
    have e12 := e1.trans e2
    walk_at "w"
    refine if_by (fun h => ?_) (fun h => ?_)
    · walk_at "w"
      have q' := q H2 e12
      rw [show isNameD n = false by simpa using h] at q'
      exact q'
    have hn : isNameD n = true := by simpa using h
    rw [hn] at q
    have ha2 := e12 _ _ ha
    walk_at "w"
    refine r_ixT (.of ha2) (v := v3) rfl ?_
    walk_at "w"
    refine ⟨M, v3, wd, rfl, dv3.ex e12, ?_⟩
    walk_at "w"
    refine if_by (fun h => ?_) (fun h => ?_)
    · walk_at "w"
      have q' := q H2 e12
      rw [show isWid wd = false by simpa using h] at q'
      exact q'
    rw [show isWid wd = true by simpa using h] at q
    replace q : ∀ H', Ex H H' → Q (.bl (needsD nd && (!nameIn n nd && procsG skipsD ps))) H' := q
    walk_at "w"
    refine r_ixT (.of ha2) (v := v4) rfl ?_
    walk_at "w"
    refine r_isiTup (dv4.ex e12) ?_
    walk_at "w"
    refine if_by (fun h => ?_) (fun h => ?_)
    · have e : isTup nd = false := by simpa using h
      walk_at "w"
      have q' := q H2 e12
      rw [(no_tup e skipsD).2.2.2.2.2.2.2.1] at q'
      exact q'
    obtain ⟨ns, rfl⟩ : ∃ pl, nd = .tuple pl := by cases nd <;> simp [isTup] at h ⊢
    obtain ⟨b, ys, rfl, hb, hrn⟩ := Rel.of_tup dv4
    have hb2 := e12 _ _ hb
    have hyl := hrn.1
    have fns := sub (.tuple ns) (by simp)
    have hnl := fine.len fns
    have en : needsD (.tuple ns) = (decide (ns.length ≤ 20) && (ns.all isNameD && risS (ns.map strOf))) := rfl
    walk_at "w"
    refine r_ixT (.of ha2) (v := .ref b) rfl ?_
    walk_at "w"
    refine r_len (.inr (.of hb2)) rfl ?_
    walk_at "w"
    refine if_by (fun h => ?_) (fun h => ?_)
    · walk_at "w"
      have h' : (20 : Int) < (ys.length : Int) := of_decide_eq_true h
      have q' := q H2 e12
      rw [en, decide_eq_false (by omega)] at q'
      exact q'
    have h20 : ns.length ≤ 20 := by
      have h' : ¬ (20 : Int) < (ys.length : Int) := of_decide_eq_false h
      omega
    rw [en, decide_eq_true h20, Bool.true_and] at q
    walk_at "w"
    refine r_ixT (.of ha2) (v := .ref b) rfl ?_
    walk_at "w"
    refine k_lcT (.of hb2) (lcT (xs := ys) (fun i acc D H' => Ex H2 H' ∧ acc = zerosV isNameD (ns.take i)) (fun D H3 _ e _ => ⟨e, rfl⟩) (fun i acc D H' _ p => .of (p.1 _ _ hb2)) (fun i x acc D H' hx hlt hD hacc p => ?_) (fun acc D H3 _ hD hacc p => ?_))
    · obtain ⟨e, rfl⟩ := p
      obtain ⟨d, hd⟩ := get_of_len hyl hx
      have hi : i < ns.length := (List.getElem?_eq_some_iff.mp hd).1
      have dx := ((hrn.2 i x d hx hd).ex e12).ex e
      have fd : fine 60 d = true := fine.tup_in (n := 60) fns (List.mem_of_getElem? hd)
      walk_at "w"
      refine ⟨M, x, d, rfl, dx, fine.shortS fd, nice.mono (fine.nice fd) (by decide), fun H4 e4 => ?_⟩
      walk_at "w"
      refine if_by (fun h => ?_) (fun h => ?_)
      · walk_at "w"
        refine k_lc (e4 _ _ hacc) hlt (by omega) fun H5 h5 k5 => ⟨Ex.mut (e.trans e4) hD k5, ?_⟩
        rw [zeros_yes hd (by simpa using h)]
      · refine k_lcN (e4 _ _ hacc) hlt ⟨e.trans e4, ?_⟩
        rw [zeros_no hd (by simpa using h)]
    obtain ⟨e3, rfl⟩ := p
    rw [hyl, List.take_length] at hacc
    walk_at "w"
    rename_i p5 H5 hp5 e5 h5
    refine ne_zeros (e5 _ _ hacc) h5 (by omega) ?_
    have e15 := (e12.trans e3).trans e5
    walk_at "w"
    refine if_by (fun h => ?_) (fun h => ?_)
    · walk_at "w"
      have q' := q H5 e15
      rw [show ns.all isNameD = false by simpa using h] at q'
      exact q'
    have hns : ns.all isNameD = true := by simpa using h
    rw [hns, Bool.true_and] at q
    have hys := rel_strs hrn fun d hd => name_str (List.all_eq_true.mp hns d hd)
    subst hys
    have ha5 := e15 _ _ ha
    have hb5 := e15 _ _ hb
    walk_at "w"
    refine r_ixT (.of ha5) (v := .ref b) rfl ?_
    walk_at "w"
    refine ⟨b, ns.map strOf, rfl, .inl hb5, by rw [List.length_map]; omega, fun H6 e6 => ?_⟩
    have e16 := e15.trans e6
    walk_at "w"
    refine if_by (fun h => ?_) (fun h => ?_)
    · walk_at "w"
      have q' := q H6 e16
      rw [show risS (ns.map strOf) = false by simpa using h] at q'
      exact q'
    rw [show risS (ns.map strOf) = true by simpa using h, Bool.true_and] at q
    have ha6 := e16 _ _ ha
    obtain ⟨s, rfl⟩ : ∃ s, n = .str s := ⟨_, name_str hn⟩
    cases dv2
    walk_at "w"
    refine r_ixT (.of ha6) (v := .str s) rfl ?_
    walk_at "w"
    refine r_ixT (.of ha6) (v := .ref b) rfl ?_
    walk_at "w"
    refine r_in (.inr (.of (e6 _ _ hb5))) rfl (by
      rw [List.all_eq_true]
      intro x hx
      obtain ⟨s, _, rfl⟩ := List.mem_map.mp hx
      rfl) ?_
    walk_at "w"
    refine if_by (fun h => ?_) (fun h => ?_)
    · walk_at "w"
      have q' := q H6 e16
      rw [show nameIn (.str s) (.tuple ns) = true from h] at q'
      exact q'
    rw [show nameIn (.str s) (.tuple ns) = false from h] at q
    replace q : ∀ H', Ex H H' → Q (.bl (procsG skipsD ps)) H' := q
    walk_at "w"
    refine r_ixT (.of ha6) (v := v5) rfl ?_
    walk_at "w"
    refine r_isiTup (dv5.ex e16) ?_
    walk_at "w"
    refine if_by (fun h => ?_) (fun h => ?_)
    · have e : isTup ps = false := by simpa using h
      walk_at "w"
      have q' := q H6 e16
      rw [(no_tup e skipsD).2.2.2.2.2.2.2.2.1] at q'
      exact q'
    obtain ⟨pl, rfl⟩ : ∃ pl, ps = .tuple pl := by cases ps <;> simp [isTup] at h ⊢
    obtain ⟨c, zs, rfl, hc, hrp⟩ := Rel.of_tup dv5
    have hc6 := e16 _ _ hc
    have hzl := hrp.1
    have fps := sub (.tuple pl) (by simp)
    walk_at "w"
    refine r_ixT (.of ha6) (v := .ref c) rfl ?_
    walk_at "w"
    refine r_len (.inr (.of hc6)) rfl ?_
    walk_at "w"
    have out : ¬ (1 ≤ pl.length ∧ pl.length ≤ 40) → Q (.bl false) H6 := fun hno => by
      have q' := q H6 e16
      rw [show procsG skipsD (.tuple pl) = false by rw [procsG, decide_eq_false hno]; rfl] at q'
      exact q'
    by_cases h1c : (1 : Int) ≤ (zs.length : Int)
    case neg =>
      rw [decide_eq_false h1c]
      walk_at "w"
      refine if_dt (by rfl) ?_
      walk_at "w"
      exact out (by omega)
    rw [decide_eq_true h1c]
    walk_at "w"
    refine if_by (fun h => ?_) (fun h => ?_)
    · walk_at "w"
      have h' : ¬ ((zs.length : Int) ≤ 40) := of_decide_eq_false (by simpa using h)
      exact out (by omega)
    have h40 : 1 ≤ pl.length ∧ pl.length ≤ 40 := by
      have h' : ((zs.length : Int) ≤ 40) := of_decide_eq_true (by simpa using h)
      omega
    clear out
    have ep : procsG skipsD (.tuple pl) = (pl.all (procG skipsD) && unlike (pl.map secS)) := by rw [procsG, decide_eq_true h40, Bool.true_and]
    rw [ep] at q
    walk_at "w"
    refine r_ixT (.of ha6) (v := .ref c) rfl ?_
    walk_at "w"
    refine k_lcT (.of hc6) (lcT (xs := zs) (fun i acc D H' => Ex H6 H' ∧ acc = zerosV (procG skipsD) (pl.take i)) (fun D H3 _ e _ => ⟨e, rfl⟩) (fun i acc D H' _ p => .of (p.1 _ _ hc6)) (fun i x acc D H' hx hlt hD hacc p => ?_) (fun acc D H7 _ hD hacc p => ?_))
    · obtain ⟨e, rfl⟩ := p
      obtain ⟨d, hd⟩ := get_of_len hzl hx
      have hi : i < pl.length := (List.getElem?_eq_some_iff.mp hd).1
      walk_at "w"
      refine ⟨M, x, d, rfl, ((hrp.2 i x d hx hd).ex e16).ex e, fine.mono (fine.tup_in (n := 60) fps (List.mem_of_getElem? hd)) (by decide), fun H4 e4 => ?_⟩
      walk_at "w"
      refine if_by (fun h => ?_) (fun h => ?_)
      · walk_at "w"
        refine k_lc (e4 _ _ hacc) hlt (by omega) fun H5 h5 k5 => ⟨Ex.mut (e.trans e4) hD k5, ?_⟩
        rw [zeros_yes hd (by simpa using h)]
      · refine k_lcN (e4 _ _ hacc) hlt ⟨e.trans e4, ?_⟩
        rw [zeros_no hd (by simpa using h)]
    obtain ⟨e7, rfl⟩ := p
    rw [hzl, List.take_length] at hacc
    walk_at "w"
    rename_i p8 H8 hp8 e8 h8
    refine eq_zeros (e8 _ _ hacc) h8 (by omega) ?_
    have e18 := (e16.trans e7).trans e8
    walk_at "w"
    refine if_by (fun hall => ?_) (fun hall => ?_)
    rotate_left
    · have q' := q H8 e18
      rw [hall] at q'
      exact q'
    rw [hall, Bool.true_and, ← procsG_all hall] at q
    have ha8 := e18 _ _ ha
    have hc8 := e18 _ _ hc
    walk_at "w"
    refine r_ixT (.of ha8) (v := .ref c) rfl ?_
    walk_at "w"
    refine k_lcT (.of hc8) (lcT (xs := zs) (fun i acc D H' => Ex H8 H' ∧ Rel M H acc ((pl.take i).map sndD)) (fun D H3 _ e _ => ⟨e, Rel.nil⟩) (fun i acc D H' _ p => .of (p.1 _ _ hc8)) (fun i x acc D H' hx hlt hD hacc p => ?_) (fun acc D H9 _ hD hacc p => ?_))
    · obtain ⟨e, r⟩ := p
      obtain ⟨d, hd⟩ := get_of_len hzl hx
      have hi : i < pl.length := (List.getElem?_eq_some_iff.mp hd).1
      obtain ⟨u1, u2, u3, u4, rfl, hnm⟩ := proc_sec (List.all_eq_true.mp hall d (List.mem_of_getElem? hd))
      obtain ⟨g, gs, rfl, hg, hrg⟩ := Rel.of_tup (hrp.2 i x _ hx hd)
      obtain ⟨w1, r1, rfl, dw1, hr1⟩ := hrg.head
      obtain ⟨w2, r2, rfl, dw2, hr2⟩ := hr1.head
      walk_at "w"
      refine r_ixT (.of ((e18.trans e) _ _ hg)) (v := w2) (atI_nn (j := 1) rfl rfl) ?_
      refine k_lc hacc hlt (by omega) fun H5 h5 k5 => ⟨Ex.mut e hD k5, ?_⟩
      rw [take_map_more hd]
      exact r.append (Rel.one dw2)
    obtain ⟨e9, rN⟩ := p
    rw [hzl, List.take_length] at rN
    have e19 := e18.trans e9
    walk_at "w"
    refine ⟨M, D, acc, pl.map sndD, rfl, hacc, rN.ex e19, by rw [List.length_map]; omega, fun d hd => ?_, fun HA eA => q HA (e19.trans eA)⟩
    obtain ⟨d', hd', rfl⟩ := List.mem_map.mp hd
    obtain ⟨u1, u2, u3, u4, rfl, hnm⟩ := proc_sec (List.all_eq_true.mp hall d' hd')
    have f1 : fine 60 (.tuple [u1, u2, u3, u4]) = true := fine.tup_in (n := 60) fps hd'
    exact fine.mono (show fine 59 u2 = true from fine.tup_in (n := 59) f1 (by simp)) (by decide)
end
end BkL
end
section
namespace BkL
open PySem PySem.Spec L2 BkG TL
local macro_rules | `(tactic| walk_at "w1") => `(tactic| first
  | with_reducible refine w_seq ?_ | with_reducible refine w_set ?_ | with_reducible refine w_ret ?_ | with_reducible refine w_drop ?_ | with_reducible refine w_ifS ?_
  | with_reducible refine w_next ?_ | with_reducible refine w_c ?_ | ((with_reducible refine' w_var ?hv ?_); (case hv => rfl)) | with_reducible refine w_op ?_ | with_reducible refine w_cons ?_ | with_reducible refine w_nil ?_
  | with_reducible refine w_cb ?_ | with_reducible refine w_call ?_ | with_reducible refine w_tup ?_ | with_reducible refine w_lst ?_ | with_reducible refine w_bm ?_ | with_reducible refine w_bm0 ?_ | with_reducible refine w_un ?_
  | with_reducible refine w_test ?_ | with_reducible refine w_B ?_ | with_reducible refine k_B ?_ | with_reducible refine w_and ?_ | with_reducible refine w_or ?_ | with_reducible refine w_not ?_ | with_reducible refine w_if ?_
  | with_reducible refine w_andV ?_ | with_reducible refine w_orV ?_ | with_reducible refine w_notV ?_ | with_reducible refine k_andV ?_ | with_reducible refine k_orV ?_ | with_reducible refine k_notV ?_
  | with_reducible refine w_chain ?_ | with_reducible refine ex_bl ?_ | with_reducible refine w_isN ?_ | with_reducible refine w_notN ?_ | with_reducible refine w_yes ?_
  | with_reducible refine r_I0 ?_ | with_reducible refine r_U ?_ | with_reducible refine r_eqI ?_ | with_reducible refine r_neI ?_ | with_reducible refine r_eqS ?_ | with_reducible refine r_neS ?_ | with_reducible refine r_eqB ?_ | with_reducible refine r_neB ?_
  | with_reducible refine r_abs ?_ | with_reducible refine r_int ?_ | with_reducible refine r_intB ?_
  | with_reducible refine w_sl ?_ | with_reducible refine w_nop ?_ | with_reducible refine w_part ?_ | with_reducible refine k_part ?_ | with_reducible refine w_revL ?_
  | with_reducible refine w_asg ?_ | with_reducible refine w_gname ?_ | with_reducible refine w_gsub ?_ | with_reducible refine w_gnil ?_ | with_reducible refine w_gcons ?_ | with_reducible refine w_retN ?_ | with_reducible refine w_brk ?_ | with_reducible refine w_cont ?_
  | with_reducible refine w_par ?_ | with_reducible refine w_par3 ?_ | with_reducible refine par_ok ?_ | with_reducible refine par_ok3 ?_ | ((with_reducible refine' w_aug ?hv ?_); (case hv => rfl)) | with_reducible refine i_I ?_
  | with_reducible refine w_forL ?_ | with_reducible refine w_forT ?_ | with_reducible refine w_forR1 ?_ | with_reducible refine w_forE ?_ | with_reducible refine w_lcL ?_ | with_reducible refine w_lcT ?_ | with_reducible refine w_lcR ?_
  | ((with_reducible refine a_tup ?hz ?_); (case hz => exact Nat.le_of_ble_eq_true rfl); intro _ _ _ _ _) | ((with_reducible refine a_lst ?hz ?_); (case hz => exact Nat.le_of_ble_eq_true rfl); intro _ _ _ _ _)
  | ((with_reducible refine k_turn1 ?hw ?_); (case hw => rfl)) | ((with_reducible refine k_turn ?hw ?_); (case hw => rfl)) | with_reducible refine r_isV ?_ | with_reducible refine r_isNotV ?_ | with_reducible refine r_isN ?_ | with_reducible refine r_notN ?_ | with_reducible refine w_lcZ ?_
  | ((with_reducible refine r_I ?hc ?_); (case hc => first | decide | assumption))
  | with_reducible refine w_forET ?_
  | ((with_reducible refine w_dnewK ?_); intro _ _ _ _ _) | with_reducible refine w_dput ?_ | with_reducible refine w_lstRg ?_ | with_reducible refine w_lstZip ?_ | with_reducible refine w_callK ?_
  | (with_reducible refine if_pos' ?_) | (with_reducible refine if_neg' ?_))
local macro_rules | `(tactic| walk_at "w") => `(tactic| repeat (walk_at "w1"))

theorem row_two {d : PyData} (h : twoD d = true) : faceRowD d = (isNameD (fstD d) && areKindsD (sndD d)) ∧ fstS d = strOf (fstD d) := by
  obtain ⟨a, b, rfl⟩ := two_of2 h; exact ⟨rfl, rfl⟩
theorem row_not {d : PyData} (h : twoD d = false) : faceRowD d = false := by
  cases d with
  | tuple ds => exact rowD_len (of_decide_eq_false (show decide (ds.length = 2) = false from h))
  | _ => rfl
theorem rows_one {ps : List PyData} {d : PyData} (hd : d ∈ ps) (h : faceRowD d = false) : rowsD (.tuple ps) = false := by
  have : ps.all faceRowD = false := by
    rw [List.all_eq_false]
    exact ⟨d, hd, by rw [h]; exact Bool.false_ne_true⟩
  rw [rowsD, this, Bool.false_and, Bool.and_false]
theorem rows_two {ps : List PyData} (h40 : 1 ≤ ps.length ∧ ps.length ≤ 40) (h : ∀ d ∈ ps, twoD d = true) (hk : ∀ d ∈ ps, areKindsD (sndD d) = true) : rowsD (.tuple ps) = ((ps.map fstD).all isNameD && unlike ((ps.map fstD).map strOf)) := by
  rw [rowsD, decide_eq_true h40, Bool.true_and, List.all_map, List.map_map]
  rw [show ps.all faceRowD = ps.all (isNameD ∘ fstD) from all_congr fun d hd => by rw [(row_two (h d hd)).1, hk d hd, Bool.and_true]; rfl, show ps.map fstS = ps.map (strOf ∘ fstD) from List.map_congr_left fun d hd => (row_two (h d hd)).2]
theorem faces_names {pl : List PyData} (h : pl.all faceD = true) : ∀ d ∈ pl, ∃ p n w rs, d = .tuple [p, n, w, rs] ∧ isNameD n = true := fun d hd => face_sec (List.all_eq_true.mp h d hd)
section
variable {P : Program} {w : World} {K : PySem.W.Frag} {mg : Str → Option Value} {base : Heap}
abbrev s_rface : Stmt := topS 63
theorem sc_rface : FnScope ["value", "one"] ["value"] (defScope s_rface) := ⟨rfl, rfl, rfl, by decide +kernel, rfl, by decide +kernel, by decide +kernel⟩
theorem C_rface (F : Fn K mg "_law_right_face" s_rface ["value"]) (Z : Bz mg) (CS : Cal P w K mg base 64 "_law_same" (spSame 63)) (CNm : Cal P w K mg base 1 "_law_is_name" spName) (CRn : Cal P w K mg base 2 "_law_right_names" spRNames) (CWi : Cal P w K mg base 2 "_law_width" spWid) (CLk : Cal P w K mg base 1 "_law_are_kinds" (spB 63 areKindsD)) : Cal P w K mg base 65 "_law_right_face" (spB 62 faceD) := by
  have S := sc_rface
  refine F.cal S (fun vs H Q E h => ?_) (fun f cdv A' outer s H vs Q E hr h => ?_)
  · obtain ⟨M, v, d, rfl, _⟩ := h; rfl
  · obtain ⟨M, v, d, rfl, hv, hf, q⟩ := h
    refine ⟨_, (pss_cons (ps_if (PW.pt (pw_or (pt_not (pt_val (pe_callB call_isi (by rfl) Z.isinstance (by decide +kernel) (pa_cons (pv 0) (pa_cons (pe_bltn (v := .ty "tuple") (by rfl) Z.tuple (by decide +kernel) rfl) pa_nil))))) (pw_or (pt_cmpR op_ne (pe_callB (cr_len) (by rfl) Z.len (by decide +kernel) (pa_cons (pv 0) pa_nil)) pe_int (nomark _)) (pw_or (pt_not (pt_val (pe_c0 CS hr (by omega) (by rfl) (pa_cons (pe_ix ix_tup (pv 0) pe_int (fun _ _ => rfl)) (pa_cons pe_str pa_nil))))) (pw_or (pt_not (pt_val (pe_c0 CNm hr (by omega) (by rfl) (pa_cons (pe_ix ix_tup (pv 0) pe_int (fun _ _ => rfl)) pa_nil)))) (pw_or1 (pt_not (pt_val (pe_c0 CWi hr (by omega) (by rfl) (pa_cons (pe_ix ix_tup (pv 0) pe_int (fun _ _ => rfl)) pa_nil)))))))))) (pss_one (ps_ret pe_bl)) pss_nil)
      (pss_cons (ps_if (PW.pt (pw_or (pt_not (pt_val (pe_callB call_isi (by rfl) Z.isinstance (by decide +kernel) (pa_cons (pe_ix ix_tup (pv 0) pe_int (fun _ _ => rfl)) (pa_cons (pe_bltn (v := .ty "tuple") (by rfl) Z.tuple (by decide +kernel) rfl) pa_nil))))) (pw_or (pt_not (pt_chain op_le op_le pe_int (pe_callB (cr_len) (by rfl) Z.len (by decide +kernel) (pa_cons (pe_ix ix_tup (pv 0) pe_int (fun _ _ => rfl)) pa_nil)) pe_int)) (pw_or1 (pt_cmpR (op_neD hr.units) (pe_lc (own := [("one", 1)]) (g := (gName 1)) rfl S.nd (pi_tup (pe_ix ix_tup (pv 0) pe_int (fun _ _ => rfl))) (blkOk_by (N := ["value", "one"]) (sc := defScope s_rface) (by decide +kernel)) (fun _ _ _ _ _ => (pg_name (i := 1) S.nd rfl (Or.inl rfl))) (fun _ _ _ _ _ => (pts_one (PW.pt (pw_or (pt_not (pt_val (pe_callB (show CallR _ (.builtin "isinstance") (rIsi K) from call_isi) (by rfl) Z.isinstance (by decide +kernel) (pa_cons (pv 1) (pa_cons (pe_bltn (v := .ty "tuple") (by rfl) Z.tuple (by decide +kernel) rfl) pa_nil))))) (pw_or1 (pt_cmpR op_ne (pe_callB ((show CallR _ (.builtin "len") (rLen K) from cr_len)) (by rfl) Z.len (by decide +kernel) (pa_cons (pv 1) pa_nil)) pe_int (nomark _))))))) (fun _ _ _ _ _ => pe_int)) (pe_lst pa_nil) (nomark _)))))) (pss_one (ps_ret pe_bl)) pss_nil)
      (pss_cons (ps_if (pt_cmpR (op_neD hr.units) (pe_lc (own := [("one", 1)]) (g := (gName 1)) rfl S.nd (pi_tup (pe_ix ix_tup (pv 0) pe_int (fun _ _ => rfl))) (blkOk_by (N := ["value", "one"]) (sc := defScope s_rface) (by decide +kernel)) (fun _ _ _ _ _ => (pg_name (i := 1) S.nd rfl (Or.inl rfl))) (fun _ _ _ _ _ => (pts_one (PW.pt (pw_or (pt_not (pt_val (pe_callB (show CallR _ (.builtin "isinstance") (rIsi K) from call_isi) (by rfl) Z.isinstance (by decide +kernel) (pa_cons (pe_ix (show IxR _ (rIxT K) from ix_tup) (pv 1) pe_int (fun _ _ => rfl)) (pa_cons (pe_bltn (v := .ty "str") (by rfl) Z.str (by decide +kernel) rfl) pa_nil))))) (pw_or1 (pt_not (pt_val (pe_c0 CLk hr (by omega) (by rfl) (pa_cons (pe_ix (show IxR _ (rIxT K) from ix_tup) (pv 1) pe_int (fun _ _ => rfl)) pa_nil))))))))) (fun _ _ _ _ _ => pe_int)) (pe_lst pa_nil) (nomark _)) (pss_one (ps_ret pe_bl)) pss_nil)
      (pss_one (ps_ret (pe_c0 CRn hr (by omega) (by rfl) (pa_cons (pe_lc (own := [("one", 1)]) (g := (gName 1)) (tt := tYes) rfl S.nd (pi_tup (pe_ix ix_tup (pv 0) pe_int (fun _ _ => rfl))) (blkOk_by (N := ["value", "one"]) (sc := defScope s_rface) (by decide +kernel)) (fun _ _ _ _ _ => (pg_name (i := 1) S.nd rfl (Or.inl rfl))) (fun _ _ _ _ _ => pts_nil) (fun _ _ _ _ _ => (pe_ix (show IxR _ (rIxT K) from ix_tup) (pv 1) pe_int (fun _ _ => rfl)))) pa_nil))))))), ?_⟩
    try dsimp only [cxOf, Cx.nox, Cx.wish]
    walk_at "w"
    refine r_isiTup hv ?_
    walk_at "w"
    have q0 := q H (fun _ _ h => h)
    refine if_by (fun h => ?_) (fun h => ?_)
    · have e : isTup d = false := by simpa using h
      walk_at "w"
      rw [(no_tup e skipsD).2.2.1] at q0
      exact q0
    obtain ⟨ds, rfl⟩ : ∃ ds, d = .tuple ds := by cases d <;> simp [isTup] at h ⊢
    obtain ⟨a, xs, rfl, ha, hr'⟩ := Rel.of_tup hv
    walk_at "w"
    refine r_len (.inr (.of ha)) rfl ?_
    walk_at "w"
    refine if_by (fun h => ?_) (fun h => ?_)
    · walk_at "w"
      have h' : ((xs.length : Int)) ≠ 4 := by simpa using h
      rw [faceD_len (by have := hr'.1; omega)] at q0
      exact q0
    obtain ⟨p, n, wd, ps, rfl⟩ := len4 (l := ds) (by
      have h' : ((xs.length : Int)) = 4 := by simpa using h
      have := hr'.1; omega)
    obtain ⟨v1, r1, rfl, dv1, hr1⟩ := hr'.head
    obtain ⟨v2, r2, rfl, dv2, hr2⟩ := hr1.head
    obtain ⟨v3, r3, rfl, dv3, hr3⟩ := hr2.head
    obtain ⟨v5, r5, rfl, dv5, hr5⟩ := hr3.head
    obtain rfl := hr5.none
    have sub : ∀ e ∈ [p, n, wd, ps], fine 61 e = true := fun e he => fine.tup_in (n := 61) hf he
    clear q0
    replace q : ∀ H', Ex H H' → Q (.bl (strIs p "face" && (isNameD n && (isWid wd && rowsD ps)))) H' := q
    walk_at "w"
    refine r_ixT (.of ha) (v := v1) rfl ?_
    walk_at "w"
    refine ⟨M, v1, _, p, _, rfl, dv1, .str _, okD.mono (by decide) (nice.ok (fine.nice (sub p (by simp)))), fun H1 e1 => ?_⟩
    rw [smD_str]
    walk_at "w"
    refine if_by (fun h => ?_) (fun h => ?_)
    · walk_at "w"
      have q' := q H1 e1
      rw [show strIs p "face" = false by simpa using h] at q'
      exact q'
    rw [show strIs p "face" = true by simpa using h] at q
    walk_at "w"
    refine r_ixT (.of (e1 _ _ ha)) (v := v2) rfl ?_
    walk_at "w"
    refine ⟨M, v2, n, rfl, dv2.ex e1, fine.shortS (sub n (by simp)), nice.mono (fine.nice (sub n (by simp))) (by decide), fun H2 e2 => ?_⟩
    have e12 := e1.trans e2
    walk_at "w"
    refine if_by (fun h => ?_) (fun h => ?_)
    · walk_at "w"
      have q' := q H2 e12
      rw [show isNameD n = false by simpa using h] at q'
      exact q'
    have hn : isNameD n = true := by simpa using h
    rw [hn] at q
    have ha2 := e12 _ _ ha
    walk_at "w"
    refine r_ixT (.of ha2) (v := v3) rfl ?_
    walk_at "w"
    refine ⟨M, v3, wd, rfl, dv3.ex e12, ?_⟩
    walk_at "w"
    refine if_by (fun h => ?_) (fun h => ?_)
    · walk_at "w"
      have q' := q H2 e12
      rw [show isWid wd = false by simpa using h] at q'
      exact q'
    rw [show isWid wd = true by simpa using h] at q
    replace q : ∀ H', Ex H H' → Q (.bl (rowsD ps)) H' := q
    walk_at "w"
    refine r_ixT (.of ha2) (v := v5) rfl ?_
    walk_at "w"
    refine r_isiTup (dv5.ex e12) ?_
    walk_at "w"
    refine if_by (fun h => ?_) (fun h => ?_)
    · have e : isTup ps = false := by simpa using h
      walk_at "w"
      have q' := q H2 e12
      rw [(no_tup e skipsD).2.2.2.2.2.2.2.2.2.1] at q'
      exact q'
    obtain ⟨pl, rfl⟩ : ∃ pl, ps = .tuple pl := by cases ps <;> simp [isTup] at h ⊢
    obtain ⟨c, zs, rfl, hc, hrp⟩ := Rel.of_tup dv5
    have hc2 := e12 _ _ hc
    have hzl := hrp.1
    have fps := sub (.tuple pl) (by simp)
    walk_at "w"
    refine r_ixT (.of ha2) (v := .ref c) rfl ?_
    walk_at "w"
    refine r_len (.inr (.of hc2)) rfl ?_
    walk_at "w"
    have out : ¬ (1 ≤ pl.length ∧ pl.length ≤ 40) → Q (.bl false) H2 := fun hno => by
      have q' := q H2 e12
      rw [show rowsD (.tuple pl) = false by rw [rowsD, decide_eq_false hno]; rfl] at q'
      exact q'
    by_cases h1c : (1 : Int) ≤ (zs.length : Int)
    case neg =>
      rw [decide_eq_false h1c]
      walk_at "w"
      refine if_dt (by rfl) ?_
      walk_at "w"
      exact out (by omega)
    rw [decide_eq_true h1c]
    walk_at "w"
    refine if_by (fun h => ?_) (fun h => ?_)
    · walk_at "w"
      have h' : ¬ ((zs.length : Int) ≤ 40) := of_decide_eq_false (by simpa using h)
      exact out (by omega)
    have h40 : 1 ≤ pl.length ∧ pl.length ≤ 40 := by
      have h' : ((zs.length : Int) ≤ 40) := of_decide_eq_true (by simpa using h)
      omega
    clear out
    walk_at "w"
    refine r_ixT (.of ha2) (v := .ref c) rfl ?_
    walk_at "w"
    refine k_lcT (.of hc2) (lcT (xs := zs) (fun i acc D H' => Ex H2 H' ∧ acc = zerosV twoD (pl.take i)) (fun D H3 _ e _ => ⟨e, rfl⟩) (fun i acc D H' _ p => .of (p.1 _ _ hc2)) (fun i x acc D H' hx hlt hD hacc p => ?_) (fun acc D H3 _ hD hacc p => ?_))
    · obtain ⟨e, rfl⟩ := p
      obtain ⟨d, hd⟩ := get_of_len hzl hx
      have hi : i < pl.length := (List.getElem?_eq_some_iff.mp hd).1
      have dx := ((hrp.2 i x d hx hd).ex e12).ex e
      walk_at "w"
      refine r_isiTup dx ?_
      walk_at "w"
      refine if_by (fun h => ?_) (fun h => ?_)
      · have e' : isTup d = false := by simpa using h
        walk_at "w"
        refine k_lc hacc hlt (by omega) fun H5 h5 k5 => ⟨Ex.mut e hD k5, ?_⟩
        rw [zeros_yes hd (by cases d <;> first | rfl | (simp [isTup] at e'; done))]
      obtain ⟨es, rfl⟩ : ∃ es, d = .tuple es := by cases d <;> simp [isTup] at h ⊢
      obtain ⟨g, gs, rfl, hg, hrg⟩ := Rel.of_tup dx
      walk_at "w"
      refine r_len (.inr (.of hg)) rfl ?_
      walk_at "w"
      refine if_by (fun h => ?_) (fun h => ?_)
      · have h' : ((gs.length : Int)) ≠ 2 := by simpa using h
        walk_at "w"
        refine k_lc hacc hlt (by omega) fun H5 h5 k5 => ⟨Ex.mut e hD k5, ?_⟩
        rw [zeros_yes hd (by
          have := hrg.1
          exact decide_eq_false (by omega))]
      · have h' : ((gs.length : Int)) = 2 := by simpa using h
        refine k_lcN hacc hlt ⟨e, ?_⟩
        rw [zeros_no hd (by
          have := hrg.1
          exact decide_eq_true (by omega))]
    obtain ⟨e3, rfl⟩ := p
    rw [hzl, List.take_length] at hacc
    walk_at "w"
    rename_i p5 H5 hp5 e5 h5
    refine ne_zeros (e5 _ _ hacc) h5 (by omega) ?_
    have e15 := (e12.trans e3).trans e5
    walk_at "w"
    refine if_by (fun h => ?_) (fun h => ?_)
    · walk_at "w"
      have q' := q H5 e15
      obtain ⟨d, hd, hb⟩ := all_false (f := twoD) (ds := pl) (by simpa using h)
      rw [rows_one hd (row_not hb)] at q'
      exact q'
    have h2 : ∀ d ∈ pl, twoD d = true := List.all_eq_true.mp (by simpa using h)
    have ha5 := e15 _ _ ha
    have hc5 := e15 _ _ hc
    have two : ∀ {i : Nat} {x : V} {d : PyData} {H' : Hp}, zs[i]? = some x → pl[i]? = some d → Ex H H' → ∃ g y z, x = .ref g ∧ H' g = some (.tup [y, z]) ∧ Dv M H y (fstD d) ∧ Dv M H z (sndD d) ∧ fine 59 (fstD d) = true ∧ fine 59 (sndD d) = true := fun {i x d H'} hx hd e => by
      obtain ⟨u1, u2, rfl⟩ := two_of2 (h2 d (List.mem_of_getElem? hd))
      obtain ⟨g, gs, rfl, hg, hrg⟩ := Rel.of_tup (hrp.2 i x _ hx hd)
      obtain ⟨w1, r1, rfl, dw1, hr1⟩ := hrg.head
      obtain ⟨w2, r2, rfl, dw2, hr2⟩ := hr1.head
      obtain rfl := hr2.none
      have f1 : fine 60 (.tuple [u1, u2]) = true := fine.tup_in (n := 60) fps (List.mem_of_getElem? hd)
      exact ⟨g, w1, w2, rfl, e _ _ hg, dw1, dw2, (show fine 59 u1 = true from fine.tup_in (n := 59) f1 (by simp)), (show fine 59 u2 = true from fine.tup_in (n := 59) f1 (by simp))⟩
    walk_at "w"
    refine r_ixT (.of ha5) (v := .ref c) rfl ?_
    walk_at "w"
    refine k_lcT (.of hc5) (lcT (xs := zs) (fun i acc D H' => Ex H5 H' ∧ acc = zerosV (fun d => isStr (fstD d) && areKindsD (sndD d)) (pl.take i)) (fun D H3 _ e _ => ⟨e, rfl⟩) (fun i acc D H' _ p => .of (p.1 _ _ hc5)) (fun i x acc D H' hx hlt hD hacc p => ?_) (fun acc D H6 _ hD hacc p => ?_))
    · obtain ⟨e, rfl⟩ := p
      obtain ⟨d, hd⟩ := get_of_len hzl hx
      have hi : i < pl.length := (List.getElem?_eq_some_iff.mp hd).1
      obtain ⟨g, y, z, rfl, hg, dy, dz, f1, f2⟩ := two hx hd (e15.trans e)
      walk_at "w"
      refine r_ixT (.of hg) (v := y) rfl ?_
      walk_at "w"
      refine r_isiStr (dy.ex (e15.trans e)) ?_
      walk_at "w"
      refine if_by (fun h => ?_) (fun h => ?_)
      · walk_at "w"
        refine k_lc hacc hlt (by omega) fun H5 h5 k5 => ⟨Ex.mut e hD k5, ?_⟩
        rw [zeros_yes hd (by rw [show isStr (fstD d) = false by simpa using h]; rfl)]
      have hs : isStr (fstD d) = true := by simpa using h
      walk_at "w"
      refine r_ixT (.of hg) (v := z) rfl ?_
      walk_at "w"
      refine ⟨M, z, sndD d, rfl, dz.ex (e15.trans e), fine.mono f2 (by decide), fun H4 e4 => ?_⟩
      walk_at "w"
      refine if_by (fun h => ?_) (fun h => ?_)
      · walk_at "w"
        refine k_lc (e4 _ _ hacc) hlt (by omega) fun H5 h5 k5 => ⟨Ex.mut (e.trans e4) hD k5, ?_⟩
        rw [zeros_yes hd (by rw [show areKindsD (sndD d) = false by simpa using h, Bool.and_false])]
      · refine k_lcN (e4 _ _ hacc) hlt ⟨e.trans e4, ?_⟩
        rw [zeros_no hd (by rw [hs, show areKindsD (sndD d) = true by simpa using h]; rfl)]
    obtain ⟨e6, rfl⟩ := p
    rw [hzl, List.take_length] at hacc
    walk_at "w"
    rename_i p7 H7 hp7 e7 h7
    refine ne_zeros (e7 _ _ hacc) h7 (by omega) ?_
    have e17 := (e15.trans e6).trans e7
    walk_at "w"
    refine if_by (fun h => ?_) (fun h => ?_)
    · walk_at "w"
      have q' := q H7 e17
      obtain ⟨d, hd, hb⟩ := all_false (f := fun d => isStr (fstD d) && areKindsD (sndD d)) (ds := pl) (by simpa using h)
      rw [rows_one hd (by
        rw [(row_two (h2 d hd)).1]
        cases hk : areKindsD (sndD d) with
        | false => rw [Bool.and_false]
        | true =>
          rw [Bool.and_true]
          simp only [hk, Bool.and_true] at hb
          cases hs : fstD d <;> first | (simp [hs, isStr] at hb; done) | rfl)] at q'
      exact q'
    have hk : ∀ d ∈ pl, areKindsD (sndD d) = true := fun d hd => by
      have h' : pl.all (fun d => isStr (fstD d) && areKindsD (sndD d)) = true := by simpa using h
      have := List.all_eq_true.mp h' d hd
      rw [Bool.and_eq_true] at this
      exact this.2
    rw [rows_two h40 h2 hk] at q
    have ha7 := e17 _ _ ha
    have hc7 := e17 _ _ hc
    walk_at "w"
    refine r_ixT (.of ha7) (v := .ref c) rfl ?_
    walk_at "w"
    refine k_lcT (.of hc7) (lcT (xs := zs) (fun i acc D H' => Ex H7 H' ∧ Rel M H acc ((pl.take i).map fstD)) (fun D H3 _ e _ => ⟨e, Rel.nil⟩) (fun i acc D H' _ p => .of (p.1 _ _ hc7)) (fun i x acc D H' hx hlt hD hacc p => ?_) (fun acc D H9 _ hD hacc p => ?_))
    · obtain ⟨e, r⟩ := p
      obtain ⟨d, hd⟩ := get_of_len hzl hx
      have hi : i < pl.length := (List.getElem?_eq_some_iff.mp hd).1
      obtain ⟨g, y, z, rfl, hg, dy, dz, _, _⟩ := two hx hd (e17.trans e)
      walk_at "w"
      refine r_ixT (.of hg) (v := y) rfl ?_
      refine k_lc hacc hlt (by omega) fun H5 h5 k5 => ⟨Ex.mut e hD k5, ?_⟩
      rw [take_map_more hd]
      exact r.append (Rel.one dy)
    obtain ⟨e9, rN⟩ := p
    rw [hzl, List.take_length] at rN
    have e19 := e17.trans e9
    walk_at "w"
    refine ⟨M, D, acc, pl.map fstD, rfl, hacc, rN.ex e19, by rw [List.length_map]; omega, fun d hd => ?_, fun HA eA => q HA (e19.trans eA)⟩
    obtain ⟨d', hd', rfl⟩ := List.mem_map.mp hd
    obtain ⟨i, hi⟩ := List.getElem?_of_mem hd'
    obtain ⟨x, hx⟩ := get_of_len hzl.symm hi
    obtain ⟨_, _, _, _, _, _, _, f1, _⟩ := two hx hi (fun _ _ h => h)
    exact fine.mono f1 (by decide)
abbrev s_rfaces : Stmt := topS 64
theorem sc_rfaces : FnScope ["value", "one"] ["value"] (defScope s_rfaces) := ⟨rfl, rfl, rfl, by decide +kernel, rfl, by decide +kernel, by decide +kernel⟩
theorem C_rfaces (F : Fn K mg "_law_right_faces" s_rfaces ["value"]) (Z : Bz mg) (CRi : Cal P w K mg base 1 "_law_rising" (spRis K)) (CRf : Cal P w K mg base 65 "_law_right_face" (spB 62 faceD)) : Cal P w K mg base 66 "_law_right_faces" (spB 62 facesD) := by
  have S := sc_rfaces
  refine F.cal S (fun vs H Q E h => ?_) (fun f cdv A' outer s H vs Q E hr h => ?_)
  · obtain ⟨M, v, d, rfl, _⟩ := h; rfl
  · obtain ⟨M, v, d, rfl, hv, hf, q⟩ := h
    refine ⟨_, (pss_one (ps_ret (pe_and (pe_callB call_isi (by rfl) Z.isinstance (by decide +kernel) (pa_cons (pv 0) (pa_cons (pe_bltn (v := .ty "tuple") (by rfl) Z.tuple (by decide +kernel) rfl) pa_nil))) (pe_and (pe_cmpR op_le (pe_callB (cr_len) (by rfl) Z.len (by decide +kernel) (pa_cons (pv 0) pa_nil)) pe_int (nomark _)) (pe_and (pe_cmpR (op_eqD hr.units) (pe_lc (own := [("one", 1)]) (g := (gName 1)) rfl S.nd (pi_tup (pv 0)) (blkOk_by (N := ["value", "one"]) (sc := defScope s_rfaces) (by decide +kernel)) (fun _ _ _ _ _ => (pg_name (i := 1) S.nd rfl (Or.inl rfl))) (fun _ _ _ _ _ => (pts_one (pt_not (pt_val (pe_c0 CRf hr (by omega) (by rfl) (pa_cons (pv 1) pa_nil)))))) (fun _ _ _ _ _ => pe_int)) (pe_lst pa_nil) (nomark _)) (pe_one (pe_c0 CRi hr (by omega) (by rfl) (pa_cons (pe_lc (own := [("one", 1)]) (g := (gName 1)) (tt := tYes) rfl S.nd (pi_tup (pv 0)) (blkOk_by (N := ["value", "one"]) (sc := defScope s_rfaces) (by decide +kernel)) (fun _ _ _ _ _ => (pg_name (i := 1) S.nd rfl (Or.inl rfl))) (fun _ _ _ _ _ => pts_nil) (fun _ _ _ _ _ => (pe_ix (show IxR _ (rIxT K) from ix_tup) (pv 1) pe_int (fun _ _ => rfl)))) pa_nil)))))))), ?_⟩
    try dsimp only [cxOf, Cx.nox, Cx.wish]
    walk_at "w"
    refine r_isiTup hv ?_
    walk_at "w"
    refine if_by (fun h => ?_) (fun h => ?_)
    rotate_left
    · have q' := q H (fun _ _ h => h)
      rw [(no_tup (by simpa using h) skipsD).2.2.2.1] at q'
      exact q'
    obtain ⟨pl, rfl⟩ : ∃ ds, d = .tuple ds := by cases d <;> simp [isTup] at h ⊢
    obtain ⟨c, zs, rfl, hc, hrp⟩ := Rel.of_tup hv
    have hzl := hrp.1
    have ef : facesD (.tuple pl) = (decide (pl.length ≤ 40) && (pl.all faceD && risS (pl.map secS))) := rfl
    rw [ef] at q
    walk_at "w"
    refine r_len (.inr (.of hc)) rfl ?_
    walk_at "w"
    have hi40 : decide ((zs.length : Int) ≤ 40) = decide (pl.length ≤ 40) := decide_eq_decide.mpr (by omega)
    rw [hi40]
    refine if_by (fun h20 => ?_) (fun h20 => ?_)
    rotate_left
    · have q' := q H (fun _ _ h => h)
      rw [h20, Bool.false_and] at q'
      exact q'
    have hn := of_decide_eq_true h20
    rw [h20, Bool.true_and] at q
    walk_at "w"
    refine k_lcT (.of hc) (lcT (xs := zs) (fun i acc D H' => Ex H H' ∧ acc = zerosV faceD (pl.take i)) (fun D H3 _ e _ => ⟨e, rfl⟩) (fun i acc D H' _ p => .of (p.1 _ _ hc)) (fun i x acc D H' hx hlt hD hacc p => ?_) (fun acc D H7 _ hD hacc p => ?_))
    · obtain ⟨e, rfl⟩ := p
      obtain ⟨d, hd⟩ := get_of_len hzl hx
      have hi : i < pl.length := (List.getElem?_eq_some_iff.mp hd).1
      walk_at "w"
      refine ⟨M, x, d, rfl, (hrp.2 i x d hx hd).ex e, fine.mono (fine.tup_in (n := 61) hf (List.mem_of_getElem? hd)) (by decide), fun H4 e4 => ?_⟩
      walk_at "w"
      refine if_by (fun h => ?_) (fun h => ?_)
      · walk_at "w"
        refine k_lc (e4 _ _ hacc) hlt (by omega) fun H5 h5 k5 => ⟨Ex.mut (e.trans e4) hD k5, ?_⟩
        rw [zeros_yes hd (by simpa using h)]
      · refine k_lcN (e4 _ _ hacc) hlt ⟨e.trans e4, ?_⟩
        rw [zeros_no hd (by simpa using h)]
    obtain ⟨e7, rfl⟩ := p
    rw [hzl, List.take_length] at hacc
    walk_at "w"
    rename_i p8 H8 hp8 e8 h8
    refine eq_zeros (e8 _ _ hacc) h8 (by omega) ?_
    have e18 := e7.trans e8
    walk_at "w"
    refine if_by (fun hall => ?_) (fun hall => ?_)
    rotate_left
    · have q' := q H8 e18
      rw [hall] at q'
      exact q'
    rw [hall, Bool.true_and] at q
    have hc8 := e18 _ _ hc
    walk_at "w"
    refine k_lcT (.of hc8) (lcT (xs := zs) (fun i acc D H' => Ex H8 H' ∧ acc = ((pl.take i).map secS).map V.str) (fun D H4 _ e _ => ⟨e, rfl⟩) (fun i acc D H' _ p => .of (p.1 _ _ hc8)) (fun i x acc D H' hx hlt hD hacc p => ?_) (fun acc D H4 _ hD hacc p => ?_))
    · obtain ⟨e, rfl⟩ := p
      obtain ⟨d, hd⟩ := get_of_len hzl hx
      have hi : i < pl.length := (List.getElem?_eq_some_iff.mp hd).1
      obtain ⟨u1, u2, u3, u4, rfl, hnm⟩ := faces_names hall d (List.mem_of_getElem? hd)
      obtain ⟨g, gs, rfl, hg, hrg⟩ := Rel.of_tup ((hrp.2 i x _ hx hd).ex (e18.trans e))
      obtain ⟨w1, r1, rfl, dw1, hr1⟩ := hrg.head
      obtain ⟨w2, r2, rfl, dw2, hr2⟩ := hr1.head
      rw [name_str hnm] at dw2
      cases dw2
      walk_at "w"
      refine r_ixT (.of hg) (v := .str (strOf u2)) (atI_nn (j := 1) rfl rfl) ?_
      refine k_lc hacc hlt (by omega) fun H5 h5 k5 => ⟨Ex.mut e hD k5, ?_⟩
      rw [take_map_more hd, List.map_append]; rfl
    obtain ⟨e4, rfl⟩ := p
    rw [hzl, List.take_length] at hacc
    walk_at "w"
    exact ⟨D, pl.map secS, rfl, .inr hacc, by rw [List.length_map]; omega, fun H5 e5 => q H5 ((e18.trans e4).trans e5)⟩
end
end BkL
end
section
namespace BkL
open PySem PySem.Spec L2 BkG TL
local macro_rules | `(tactic| walk_at "w1") => `(tactic| first
  | with_reducible refine w_seq ?_ | with_reducible refine w_set ?_ | with_reducible refine w_ret ?_ | with_reducible refine w_drop ?_ | with_reducible refine w_ifS ?_
  | with_reducible refine w_next ?_ | with_reducible refine w_c ?_ | ((with_reducible refine' w_var ?hv ?_); (case hv => rfl)) | with_reducible refine w_op ?_ | with_reducible refine w_cons ?_ | with_reducible refine w_nil ?_
  | with_reducible refine w_cb ?_ | with_reducible refine w_call ?_ | with_reducible refine w_tup ?_ | with_reducible refine w_lst ?_ | with_reducible refine w_bm ?_ | with_reducible refine w_bm0 ?_ | with_reducible refine w_un ?_
  | with_reducible refine w_test ?_ | with_reducible refine w_B ?_ | with_reducible refine k_B ?_ | with_reducible refine w_and ?_ | with_reducible refine w_or ?_ | with_reducible refine w_not ?_ | with_reducible refine w_if ?_
  | with_reducible refine w_andV ?_ | with_reducible refine w_orV ?_ | with_reducible refine w_notV ?_ | with_reducible refine k_andV ?_ | with_reducible refine k_orV ?_ | with_reducible refine k_notV ?_
  | with_reducible refine w_chain ?_ | with_reducible refine ex_bl ?_ | with_reducible refine w_isN ?_ | with_reducible refine w_notN ?_ | with_reducible refine w_yes ?_
  | with_reducible refine r_I0 ?_ | with_reducible refine r_U ?_ | with_reducible refine r_eqI ?_ | with_reducible refine r_neI ?_ | with_reducible refine r_eqS ?_ | with_reducible refine r_neS ?_ | with_reducible refine r_eqB ?_ | with_reducible refine r_neB ?_
  | with_reducible refine r_abs ?_ | with_reducible refine r_int ?_ | with_reducible refine r_intB ?_
  | with_reducible refine w_sl ?_ | with_reducible refine w_nop ?_ | with_reducible refine w_part ?_ | with_reducible refine k_part ?_ | with_reducible refine w_revL ?_
  | with_reducible refine w_asg ?_ | with_reducible refine w_gname ?_ | with_reducible refine w_gsub ?_ | with_reducible refine w_gnil ?_ | with_reducible refine w_gcons ?_ | with_reducible refine w_retN ?_ | with_reducible refine w_brk ?_ | with_reducible refine w_cont ?_
  | with_reducible refine w_par ?_ | with_reducible refine w_par3 ?_ | with_reducible refine par_ok ?_ | with_reducible refine par_ok3 ?_ | ((with_reducible refine' w_aug ?hv ?_); (case hv => rfl)) | with_reducible refine i_I ?_
  | with_reducible refine w_forL ?_ | with_reducible refine w_forT ?_ | with_reducible refine w_forR1 ?_ | with_reducible refine w_forE ?_ | with_reducible refine w_lcL ?_ | with_reducible refine w_lcT ?_ | with_reducible refine w_lcR ?_
  | ((with_reducible refine a_tup ?hz ?_); (case hz => exact Nat.le_of_ble_eq_true rfl); intro _ _ _ _ _) | ((with_reducible refine a_lst ?hz ?_); (case hz => exact Nat.le_of_ble_eq_true rfl); intro _ _ _ _ _)
  | ((with_reducible refine k_turn1 ?hw ?_); (case hw => rfl)) | ((with_reducible refine k_turn ?hw ?_); (case hw => rfl)) | with_reducible refine r_isV ?_ | with_reducible refine r_isNotV ?_ | with_reducible refine r_isN ?_ | with_reducible refine r_notN ?_ | with_reducible refine w_lcZ ?_
  | ((with_reducible refine r_I ?hc ?_); (case hc => first | decide | assumption))
  | with_reducible refine w_forET ?_
  | ((with_reducible refine w_dnewK ?_); intro _ _ _ _ _) | with_reducible refine w_dput ?_ | with_reducible refine w_lstRg ?_ | with_reducible refine w_lstZip ?_ | with_reducible refine w_callK ?_
  | (with_reducible refine if_pos' ?_) | (with_reducible refine if_neg' ?_))
local macro_rules | `(tactic| walk_at "w") => `(tactic| repeat (walk_at "w1"))

section
variable {P : Program} {w : World} {K : PySem.W.Frag} {mg : Str → Option Value} {base : Heap}
abbrev s_letters : Stmt := topS 51
theorem sc_letters : FnScope ["deal", "many", "found", "turn", "name", "sign", "at"] ["deal", "many"] (defScope s_letters) := ⟨rfl, rfl, rfl, by decide +kernel, rfl, by decide +kernel, by decide +kernel⟩
theorem C_letters (F : Fn K mg "_law_letters" s_letters ["deal", "many"]) (Z : Bz mg) (CA : Cal P w K mg base 1 "_law_any" spAny) (CO : Cal P w K mg base 2 "_law_of" spOf) (CNm : Cal P w K mg base 1 "_law_is_name" spName) : Cal P w K mg base 3 "_law_letters" spLetters := by
  have S := sc_letters
  refine F.cal S (fun vs H Q E h => ?_) (fun f cdv A' outer s H vs Q E hr h => ?_)
  · obtain ⟨D, L, n, rfl, _⟩ := h; rfl
  · obtain ⟨D, L, n, rfl, hn, hd, q⟩ := h
    refine ⟨_, (pss_cons (ps_set (i := 2) S.nd rfl (Or.inl rfl) (pe_lst pa_nil))
      (pss_cons (ps_for PassesOwn.never rfl (pi_range1 (by rfl) Z.range (pa_cons (pe_op op_mulW (pv 1) pe_int) pa_nil)) (pg_name (i := 3) S.nd rfl (Or.inl rfl)) (pss_cons (ps_set (i := 4) S.nd rfl (Or.inl rfl) (pe_ix ix_str pe_str (pe_c0 CA hr (by omega) (by rfl) (pa_cons (pv 0) (pa_cons pe_int pa_nil))) (fun _ _ => rfl)))
      (pss_cons (ps_for PassesOwn.never rfl (pi_range1 (by rfl) Z.range (pa_cons (pe_c0 CO hr (by omega) (by rfl) (pa_cons (pv 0) (pa_cons (pe_lst (pa_cons pe_int (pa_cons pe_int (pa_cons pe_int (pa_cons pe_int (pa_cons pe_int pa_nil)))))) pa_nil))) pa_nil)) (pg_name (i := 5) S.nd rfl (Or.inl rfl)) (pss_one (ps_set (i := 4) S.nd rfl (Or.inl rfl) (pe_op op_catS (pv 4) (pe_ix ix_str pe_str (pe_c0 CA hr (by omega) (by rfl) (pa_cons (pv 0) (pa_cons pe_int pa_nil))) (fun _ _ => rfl))))))
      (pss_one (ps_if (PW.pt (pw_and (pt_cmpR op_lt (pe_callB (cr_len) (by rfl) Z.len (by decide +kernel) (pa_cons (pv 2) pa_nil)) (pv 1) (nomark _)) (pw_and (pt_cmpR op_notIn_seq (pv 4) (pv 2) (by rfl)) (pw_and1 (pt_val (pe_c0 CNm hr (by omega) (by rfl) (pa_cons (pv 4) pa_nil))))))) (pss_one (ps_expr (pe_bm PySem.F.plainAttrs_list PySem.F.slot_list_append PySem.F.type_list_append mt_append (pv 2) (pa_cons (pv 4) pa_nil)))) pss_nil)))))
      (pss_cons (ps_for PassesOwn.never rfl (pi_range1 (by rfl) Z.range (pa_cons (pv 1) pa_nil)) (pg_name (i := 6) S.nd rfl (Or.inl rfl)) (pss_one (ps_if (PW.pt (pw_and (pt_cmpR op_lt (pe_callB (cr_len) (by rfl) Z.len (by decide +kernel) (pa_cons (pv 2) pa_nil)) (pv 1) (nomark _)) (pw_and1 (pt_cmpR op_notIn_seq (pe_op op_catS pe_str (pe_callTy call_str_int (by rfl) Z.str (by decide +kernel) (pa_cons (pv 6) pa_nil))) (pv 2) (by rfl))))) (pss_one (ps_expr (pe_bm PySem.F.plainAttrs_list PySem.F.slot_list_append PySem.F.type_list_append mt_append (pv 2) (pa_cons (pe_op op_catS pe_str (pe_callTy call_str_int (by rfl) Z.str (by decide +kernel) (pa_cons (pv 6) pa_nil))) pa_nil)))) pss_nil)))
      (pss_one (ps_ret (pv 2)))))), ?_⟩
    try dsimp only [cxOf, Cx.nox, Cx.wish]
    walk_at "w"
    rename_i p0 H0 hp0 e0 h0
    obtain ⟨n1, n2⟩ := hd.fresh hp0
    refine r_I (wide_mul (a := 64) (b := 64) (by omega) (by decide) (by decide) (by decide) (by decide)) ?_
    walk_at "w"
    refine a_rng1 (n := n * 4) (by omega) (by omega) (fun i σ' H' => Deal H' D L ∧ Kp [D, L] H H' ∧ ∃ ss z3 z4 z5 z6, σ' = [some (.ref D), some (.int n), some (.ref p0), z3, z4, z5, z6] ∧ H' p0 = some (.lst (ss.map V.str)) ∧ ss.length ≤ n ∧ ss.Nodup ∧ ∀ s ∈ ss, nameS s = true)
      ⟨hd.keep e0, .of e0, [], none, none, none, none, rfl, h0, Nat.zero_le _, List.nodup_nil, by simp⟩ (fun i σ' H' hi p => ?_) (fun σ' H' p => ?_)
    · obtain ⟨d, k, ss, z3, z4, z5, z6, rfl, hp, hl, hnd, hss⟩ := p
      walk_at "w"
      refine ⟨D, L, 26, rfl, d, by decide, by decide +kernel, fun z H1 z0 z1 d1 k1 => ?_⟩
      have hp1 := k1.at hp (by simp [n1, n2])
      have k01 := k.trans k1
      obtain ⟨j, rfl⟩ : ∃ j : Nat, z = (j : Int) := ⟨z.toNat, by omega⟩
      obtain ⟨c, hc⟩ : ∃ c, (("abcdefghijklmnopqrstuvwxyz" : Str)).cps.toList[j]? = some c := ⟨_, List.getElem?_eq_getElem (by
        rw [show (("abcdefghijklmnopqrstuvwxyz" : Str)).cps.toList.length = 26 by decide +kernel]; omega)⟩
      have hcl : (isLet c || isDig c) = true := by
        have : isLet c = true := by rw [← let_in]; exact decide_eq_true (List.mem_of_getElem? hc)
        rw [this]; rfl
      refine r_ixS (by decide +kernel) (c := c) (atI_nat hc) ?_
      walk_at "w"
      rename_i l2 H2 hl2 e2 h2
      obtain ⟨m1, m2⟩ := d1.fresh hl2
      refine spOf_ints (zs := [0, 1, 1, 2, 11]) (d1.keep e2) h2 m1 m2 (by decide) (by decide) fun z H3 hz d3 k3 kt3 => ?_
      have hp3 := k3.at (e2 _ _ hp1) (by simp [n1, n2])
      have k03 := (k01.ex e2).trans k3
      obtain ⟨m, rfl, hm⟩ : ∃ m : Nat, z = (m : Int) ∧ m ≤ 11 := ⟨z.toNat, by simp at hz; omega, by simp at hz; omega⟩
      walk_at "w"
      refine a_rng1 (n := m) rfl (by omega) (fun i' σ' H' => Deal H' D L ∧ Kp [D, L] H H' ∧ ∃ s z5, σ' = [some (.ref D), some (.int n), some (.ref p0), some (.int i), some (.str s), z5, z6] ∧ H' p0 = some (.lst (ss.map V.str)) ∧ okSigns s ∧ s.length ≤ i' + 1)
        ⟨d3, k03, _, _, rfl, hp3, .one hcl, Nat.le_refl _⟩ (fun i' σ' H' hi' p => ?_) (fun σ' H' p => ?_)
      · obtain ⟨d, k, s, z5, rfl, hp, hs, hsl⟩ := p
        walk_at "w"
        refine ⟨D, L, 36, rfl, d, by decide, by decide +kernel, fun z H1 z0 z1 d1 k1 => ?_⟩
        obtain ⟨j, rfl⟩ : ∃ j : Nat, z = (j : Int) := ⟨z.toNat, by omega⟩
        obtain ⟨c, hc⟩ : ∃ c, (("abcdefghijklmnopqrstuvwxyz0123456789" : Str)).cps.toList[j]? = some c := ⟨_, List.getElem?_eq_getElem (by
          rw [show (("abcdefghijklmnopqrstuvwxyz0123456789" : Str)).cps.toList.length = 36 by decide +kernel]; omega)⟩
        have hcl : (isLet c || isDig c) = true := by rw [← sign_in]; exact decide_eq_true (List.mem_of_getElem? hc)
        refine r_ixS (by decide +kernel) (c := c) (atI_nat hc) ?_
        refine r_catS (by
          show s.length + 1 ≤ 100000
          omega) ?_
        walk_at "w"
        exact ⟨d1, k.trans k1, _, _, rfl, k1.at hp (by simp [n1, n2]), hs.add hcl, by rw [add_len]; omega⟩
      obtain ⟨d, k, s, z5, rfl, hp, hs, hsl⟩ := p
      walk_at "w"
      have skip : ∀ {H2 : Hp}, Ex H' H2 → Deal H2 D L ∧ Kp [D, L] H H2 ∧ ∃ (ss : List Str) (y3 y4 y5 y6 : Option V), [some (V.ref D), some (.int n), some (.ref p0), some (.int i), some (.str s), z5, z6] = [some (V.ref D), some (.int n), some (.ref p0), y3, y4, y5, y6] ∧ H2 p0 = some (.lst (ss.map V.str)) ∧ ss.length ≤ n ∧ ss.Nodup ∧ ∀ s ∈ ss, nameS s = true := fun e => ⟨d.keep e, k.ex e, ss, _, _, _, _, rfl, e _ _ hp, hl, hnd, hss⟩
      refine r_len (.inl (.of hp)) rfl ?_
      walk_at "w"
      refine if_by (fun h => ?_) (fun h => ?_)
      rotate_left
      · walk_at "w"
        exact skip (fun _ _ h => h)
      have hlt : ss.length < n := by
        have h' : (((ss.map V.str).length : Nat) : Int) < (n : Int) := of_decide_eq_true h
        rw [List.length_map] at h'
        omega
      walk_at "w"
      refine r_notin (.inl (.of hp)) rfl strs_flat ?_
      rw [inV_strs]
      walk_at "w"
      refine if_by (fun h => ?_) (fun h => ?_)
      rotate_left
      · walk_at "w"
        exact skip (fun _ _ h => h)
      have hni : s ∉ ss := of_decide_eq_false (by simpa using h)
      walk_at "w"
      refine ⟨[], _, .str s, rfl, .str s, (fun t e => by cases e; omega), nice.mk (okD_str _ _) hs.ok, fun H4 e4 => ?_⟩
      walk_at "w"
      refine if_by (fun h => ?_) (fun h => ?_)
      rotate_left
      · walk_at "w"
        exact skip e4
      have hnm : nameS s = true := h
      have hp4 := e4 _ _ hp
      walk_at "w"
      refine ⟨ty_list hp4, ?_⟩
      walk_at "w"
      refine r_append hp4 (by rw [List.length_map]; omega) fun H5 k5 h5 => ?_
      walk_at "w"
      have k5' : ∀ a o, a ≠ p0 → H4 a = some o → H5 a = some o := fun a o ne h => k5 a o h (by simpa using ne)
      refine ⟨(d.keep e4).kpm k5' n1 n2, (k.ex e4).mut hp0 k5', ss ++ [s], _, _, _, _, rfl, by rw [h5, List.map_append]; rfl, by rw [List.length_append, List.length_singleton]; omega, ?_, fun t ht => ?_⟩
      · rw [List.nodup_append]
        refine ⟨hnd, by simp, fun a ha b hb e => ?_⟩
        rw [List.mem_singleton.mp hb] at e
        exact hni (e ▸ ha)
      · rcases List.mem_append.mp ht with ht | ht
        · exact hss t ht
        · rw [List.mem_singleton.mp ht]; exact hnm
    · obtain ⟨d, k, ss, z3, z4, z5, z6, rfl, hp, hl, hnd, hss⟩ := p
      walk_at "w"
      refine a_rng1 (n := n) rfl (by omega) (fun i σ' H' => Deal H' D L ∧ Kp [D, L] H H' ∧ ∃ ss z6, σ' = [some (.ref D), some (.int n), some (.ref p0), z3, z4, z5, z6] ∧ H' p0 = some (.lst (ss.map V.str)) ∧ ss.length ≤ n ∧ ss.Nodup ∧ (∀ s ∈ ss, nameS s = true) ∧ (ss.length = n ∨ ∀ j < i, numS "q" j ∈ ss))
        ⟨d, k, ss, _, rfl, hp, hl, hnd, hss, .inr (by simp)⟩ (fun i σ' H' hi p => ?_) (fun σ' H' p => ?_)
      · obtain ⟨d, k, ss, z6, rfl, hp, hl, hnd, hss, hq⟩ := p
        walk_at "w"
        refine r_len (.inl (.of hp)) rfl ?_
        walk_at "w"
        refine if_by (fun h => ?_) (fun h => ?_)
        rotate_left
        · walk_at "w"
          have h' : ¬ (((ss.map V.str).length : Nat) : Int) < (n : Int) := of_decide_eq_false h
          rw [List.length_map] at h'
          exact ⟨d, k, ss, _, rfl, hp, hl, hnd, hss, .inl (by omega)⟩
        have hlt : ss.length < n := by
          have h' : (((ss.map V.str).length : Nat) : Int) < (n : Int) := of_decide_eq_true h
          rw [List.length_map] at h'
          omega
        have hq' : ∀ j < i, numS "q" j ∈ ss := by
          rcases hq with hq | hq
          · omega
          · exact hq
        walk_at "w"
        have hlog : ((i : Int)).natAbs.log2 < 1920 := by
          rw [Int.natAbs_natCast]
          exact Nat.lt_of_le_of_lt (Nat.log2_le_self i) (by omega)
        refine ⟨(i : Int), rfl, hlog, ?_⟩
        have hlen : (numS "q" i).length ≤ 12 := name_len (q_name (by omega))
        have hql : (("q" : Str)).length + (Str.ofString (toString ((i : Nat) : Int))).length ≤ 100000 := by
          have : (numS "q" i).length = (("q" : Str)).length + (Str.ofString (toString ((i : Nat) : Int))).length := by
            show (_ ++ _ : Array Nat).size = _
            simp [Str.length]
          omega
        refine r_catS hql ?_
        walk_at "w"
        refine r_notin (.inl (.of hp)) rfl strs_flat ?_
        rw [inV_strs]
        walk_at "w"
        refine if_by (fun h => ?_) (fun h => ?_)
        rotate_left
        · walk_at "w"
          have hin : numS "q" i ∈ ss := of_decide_eq_true ((Bool.not_eq_false' _).mp (show (!decide (numS "q" i ∈ ss)) = false from h))
          refine ⟨d, k, ss, _, rfl, hp, hl, hnd, hss, .inr fun j hj => ?_⟩
          by_cases e : j = i
          · rw [e]; exact hin
          · exact hq' j (by omega)
        have hni : numS "q" i ∉ ss := of_decide_eq_false ((Bool.not_eq_true' _).mp (show (!decide (numS "q" i ∈ ss)) = true from h))
        walk_at "w"
        refine ⟨ty_list hp, ?_⟩
        walk_at "w"
        refine ⟨(i : Int), rfl, hlog, ?_⟩
        refine r_catS hql ?_
        walk_at "w"
        refine r_append hp (by rw [List.length_map]; omega) fun H5 k5 h5 => ?_
        walk_at "w"
        have k5' : ∀ a o, a ≠ p0 → H' a = some o → H5 a = some o := fun a o ne h => k5 a o h (by simpa using ne)
        refine ⟨d.kpm k5' n1 n2, k.mut hp0 k5', ss ++ [numS "q" i], _, rfl, by rw [h5, List.map_append]; rfl, by rw [List.length_append, List.length_singleton]; omega, ?_, fun t ht => ?_, .inr fun j hj => ?_⟩
        · rw [List.nodup_append]
          refine ⟨hnd, by simp, fun a ha b hb e => ?_⟩
          rw [List.mem_singleton.mp hb] at e
          exact hni (e ▸ ha)
        · rcases List.mem_append.mp ht with ht | ht
          · exact hss t ht
          · rw [List.mem_singleton.mp ht]; exact q_name (by omega)
        · by_cases e : j = i
          · rw [e]; simp
          · exact List.mem_append_left _ (hq' j (by omega))
      · obtain ⟨d, k, ss, z6, rfl, hp, hl, hnd, hss, hq⟩ := p
        walk_at "w"
        refine q p0 ss H' hp ?_ hnd hss n1 n2 hp0 d k
        rcases hq with hq | hq
        · exact hq
        · have := q_full hn hq
          omega
end
end BkL
end
section
namespace BkL
open PySem PySem.Spec L2 BkG TL
local macro_rules | `(tactic| walk_at "w1") => `(tactic| first
  | with_reducible refine w_seq ?_ | with_reducible refine w_set ?_ | with_reducible refine w_ret ?_ | with_reducible refine w_drop ?_ | with_reducible refine w_ifS ?_
  | with_reducible refine w_next ?_ | with_reducible refine w_c ?_ | ((with_reducible refine' w_var ?hv ?_); (case hv => rfl)) | with_reducible refine w_op ?_ | with_reducible refine w_cons ?_ | with_reducible refine w_nil ?_
  | with_reducible refine w_cb ?_ | with_reducible refine w_call ?_ | with_reducible refine w_tup ?_ | with_reducible refine w_lst ?_ | with_reducible refine w_bm ?_ | with_reducible refine w_bm0 ?_ | with_reducible refine w_un ?_
  | with_reducible refine w_test ?_ | with_reducible refine w_B ?_ | with_reducible refine k_B ?_ | with_reducible refine w_and ?_ | with_reducible refine w_or ?_ | with_reducible refine w_not ?_ | with_reducible refine w_if ?_
  | with_reducible refine w_andV ?_ | with_reducible refine w_orV ?_ | with_reducible refine w_notV ?_ | with_reducible refine k_andV ?_ | with_reducible refine k_orV ?_ | with_reducible refine k_notV ?_
  | with_reducible refine w_chain ?_ | with_reducible refine ex_bl ?_ | with_reducible refine w_isN ?_ | with_reducible refine w_notN ?_ | with_reducible refine w_yes ?_
  | with_reducible refine r_I0 ?_ | with_reducible refine r_U ?_ | with_reducible refine r_eqI ?_ | with_reducible refine r_neI ?_ | with_reducible refine r_eqS ?_ | with_reducible refine r_neS ?_ | with_reducible refine r_eqB ?_ | with_reducible refine r_neB ?_
  | with_reducible refine r_abs ?_ | with_reducible refine r_int ?_ | with_reducible refine r_intB ?_
  | with_reducible refine w_sl ?_ | with_reducible refine w_nop ?_ | with_reducible refine w_part ?_ | with_reducible refine k_part ?_ | with_reducible refine w_revL ?_
  | with_reducible refine w_asg ?_ | with_reducible refine w_gname ?_ | with_reducible refine w_gsub ?_ | with_reducible refine w_gnil ?_ | with_reducible refine w_gcons ?_ | with_reducible refine w_retN ?_ | with_reducible refine w_brk ?_ | with_reducible refine w_cont ?_
  | with_reducible refine w_par ?_ | with_reducible refine w_par3 ?_ | with_reducible refine par_ok ?_ | with_reducible refine par_ok3 ?_ | ((with_reducible refine' w_aug ?hv ?_); (case hv => rfl)) | with_reducible refine i_I ?_
  | with_reducible refine w_forL ?_ | with_reducible refine w_forT ?_ | with_reducible refine w_forR1 ?_ | with_reducible refine w_forE ?_ | with_reducible refine w_lcL ?_ | with_reducible refine w_lcT ?_ | with_reducible refine w_lcR ?_
  | ((with_reducible refine a_tup ?hz ?_); (case hz => exact Nat.le_of_ble_eq_true rfl); intro _ _ _ _ _) | ((with_reducible refine a_lst ?hz ?_); (case hz => exact Nat.le_of_ble_eq_true rfl); intro _ _ _ _ _)
  | ((with_reducible refine k_turn1 ?hw ?_); (case hw => rfl)) | ((with_reducible refine k_turn ?hw ?_); (case hw => rfl)) | with_reducible refine r_isV ?_ | with_reducible refine r_isNotV ?_ | with_reducible refine r_isN ?_ | with_reducible refine r_notN ?_ | with_reducible refine w_lcZ ?_
  | ((with_reducible refine r_I ?hc ?_); (case hc => first | decide | assumption))
  | with_reducible refine w_forET ?_
  | ((with_reducible refine w_dnewK ?_); intro _ _ _ _ _) | with_reducible refine w_dput ?_ | with_reducible refine w_lstRg ?_ | with_reducible refine w_lstZip ?_ | with_reducible refine w_callK ?_
  | (with_reducible refine if_pos' ?_) | (with_reducible refine if_neg' ?_))
local macro_rules | `(tactic| walk_at "w") => `(tactic| repeat (walk_at "w1"))

def kindsS : List Str := ["word", "array", "stack", "in", "out"]
theorem kinds_good {H : Hp} {n : Nat} {s : Str} (h : s ∈ kindsS) : Oe H n 0 (.str s) := by
  simp only [kindsS, List.mem_cons, List.not_mem_nil, or_false] at h
  rcases h with rfl | rfl | rfl | rfl | rfl <;> exact .s (by decide +kernel) (by decide +kernel)
def spLaw (K : PySem.W.Frag) : Sp := fun vs H Q _ => ∃ (a : Addr) (ns : List Int), vs = [.ref a] ∧ SqL K H a (ns.map V.int) ∧ ns.length ≤ 63 ∧ ∀ H', Q (.bl true) H'
section
variable {P : Program} {w : World} {K : PySem.W.Frag} {mg : Str → Option Value} {base : Heap}
abbrev s_law : Stmt := topS 65
theorem sc_law : FnScope ["script", "deal", "kinds", "turn", "names", "many", "parts", "at", "body", "proc", "procs", "needs", "module", "rows", "part", "face", "faces", "name", "more", "some", "value", "one", "due"] ["script"] (defScope s_law) := ⟨rfl, rfl, rfl, by decide +kernel, rfl, by decide +kernel, by decide +kernel⟩
theorem C_law {f0 : Addr} {fd : FuncData} (F : Fun K "law" "law" s_law f0 fd) (Z : Bz mg) (CD : Cal P w K mg base 1 "_law_draw" (spDraw K)) (CA : Cal P w K mg base 1 "_law_any" spAny) (CO : Cal P w K mg base 2 "_law_of" spOf) (CLt : Cal P w K mg base 3 "_law_letters" spLetters) (CNe : Cal P w K mg base 65 "_law_near" spNearX) (CS : Cal P w K mg base 64 "_law_same" (spSame 63))
    (CRp : Cal P w K mg base 65 "_law_right_proc" (spB 62 (procG skipsD))) (CRm : Cal P w K mg base 66 "_law_right_module" (spB 62 (moduleG skipsD))) (CRf : Cal P w K mg base 65 "_law_right_face" (spB 62 faceD)) (CRs : Cal P w K mg base 66 "_law_right_faces" (spB 62 facesD))
    (CIp : CalK P w K mg base 8 "is_procedure" ["value"] (spB 62 (procG rightSt))) (CIm : CalK P w K mg base 9 "is_module" ["value"] (spB 62 (moduleG rightSt))) (CIf : CalK P w K mg base 4 "is_face" ["value"] (spB 62 faceD)) (CIs : CalK P w K mg base 5 "are_faces" ["value"] (spB 62 facesD)) :
    FnOk P w K mg base CX0 67 f0 fd ["script"] (spLaw K) := by
  have S := sc_law
  refine F.ok S (fun vs H Q E h => ?_) (fun cdv A' outer s H vs Q E hr h => ?_)
  · obtain ⟨a, ns, rfl, _⟩ := h; rfl
  · obtain ⟨a, ns, rfl, ha, hl, q⟩ := h
    refine ⟨_, (pss_cons (ps_set (i := 1) S.nd rfl (Or.inr rfl) (pe_c0 CD hr (by omega) (by rfl) (pa_cons (pv 0) (pa_cons pe_int pa_nil))))
      (pss_cons (ps_set (i := 2) S.nd rfl (Or.inr rfl) (pe_lst (pa_cons pe_str (pa_cons pe_str (pa_cons pe_str (pa_cons pe_str (pa_cons pe_str pa_nil)))))))
      (pss_cons (ps_for PassesOwn.never rfl (pi_range1 (by rfl) Z.range (pa_cons pe_int pa_nil)) (pg_name (i := 3) S.nd rfl (Or.inl rfl)) (pss_cons (ps_set (i := 4) S.nd rfl (Or.inl rfl) (pe_c0 CLt hr (by omega) (by rfl) (pa_cons (pv 1) (pa_cons pe_int pa_nil))))
      (pss_cons (ps_set (i := 5) S.nd rfl (Or.inr rfl) (pe_c0 CO hr (by omega) (by rfl) (pa_cons (pv 1) (pa_cons (pe_lst (pa_cons pe_int (pa_cons pe_int (pa_cons pe_int (pa_cons pe_int (pa_cons pe_int (pa_cons pe_int pa_nil))))))) pa_nil))))
      (pss_cons (ps_set (i := 6) S.nd rfl (Or.inr rfl) (pe_callTy (call_tuple_of) (by rfl) Z.tuple (by decide +kernel) (pa_cons (pe_lc (own := [("at", 7)]) (g := (gName 7)) (tt := tYes) rfl S.nd (pi_range1 (by rfl) Z.range (pa_cons (pv 5) pa_nil)) (blkOk_by (N := ["script", "deal", "kinds", "turn", "names", "many", "parts", "at", "body", "proc", "procs", "needs", "module", "rows", "part", "face", "faces", "name", "more", "some", "value", "one", "due"]) (sc := defScope s_law) (by decide +kernel)) (fun _ _ _ _ _ => (pg_name (i := 7) S.nd rfl (Or.inl rfl))) (fun _ _ _ _ _ => pts_nil) (fun _ _ _ _ _ => (pe_tup (pa_cons (pe_c0 CO hr (by omega) (by rfl) (pa_cons (pv 1) (pa_cons (pv 2) pa_nil))) (pa_cons (pe_op op_catS pe_str (pe_callTy call_str_int (by rfl) Z.str (by decide +kernel) (pa_cons (pv 7) pa_nil))) pa_nil))))) pa_nil)))
      (pss_cons (ps_set (i := 8) S.nd rfl (Or.inr rfl) (pe_c0 CO hr (by omega) (by rfl) (pa_cons (pv 1) (pa_cons (pe_lst (pa_cons (pe_tup (pa_cons pe_str pa_nil)) (pa_cons (pe_tup (pa_cons pe_str (pa_cons (pe_tup (pa_cons (pe_tup (pa_cons pe_str pa_nil)) (pa_cons (pe_tup (pa_cons pe_str pa_nil)) pa_nil))) pa_nil))) pa_nil))) pa_nil))))
      (pss_cons (ps_set (i := 9) S.nd rfl (Or.inl rfl) (pe_tup (pa_cons pe_str (pa_cons (pe_ix ix_list (pv 4) pe_int (fun _ _ => rfl)) (pa_cons (pv 6) (pa_cons (pv 8) pa_nil))))))
      (pss_cons (ps_set (i := 10) S.nd rfl (Or.inl rfl) (pe_callTy (call_tuple_of) (by rfl) Z.tuple (by decide +kernel) (pa_cons (pe_lc (own := [("at", 7)]) (g := (gName 7)) (tt := tYes) rfl S.nd (pi_range1 (by rfl) Z.range (pa_cons (pe_c0 CO hr (by omega) (by rfl) (pa_cons (pv 1) (pa_cons (pe_lst (pa_cons pe_int (pa_cons pe_int (pa_cons pe_int (pa_cons pe_int (pa_cons pe_int pa_nil)))))) pa_nil))) pa_nil)) (blkOk_by (N := ["script", "deal", "kinds", "turn", "names", "many", "parts", "at", "body", "proc", "procs", "needs", "module", "rows", "part", "face", "faces", "name", "more", "some", "value", "one", "due"]) (sc := defScope s_law) (by decide +kernel)) (fun _ _ _ _ _ => (pg_name (i := 7) S.nd rfl (Or.inl rfl))) (fun _ _ _ _ _ => pts_nil) (fun _ _ _ _ _ => (pe_tup (pa_cons pe_str (pa_cons (pe_op op_catS pe_str (pe_callTy call_str_int (by rfl) Z.str (by decide +kernel) (pa_cons (pv 7) pa_nil))) (pa_cons (pe_slice (show SlR _ (rSlA K) from sl_tupA) (pv 6) po_none (po_some pe_int)) (pa_cons (pv 8) pa_nil))))))) pa_nil)))
      (pss_cons (ps_set (i := 11) S.nd rfl (Or.inl rfl) (pe_callTy (call_tuple_of) (by rfl) Z.tuple (by decide +kernel) (pa_cons (pe_callB (cr_sortedS) (by rfl) Z.sorted (by decide +kernel) (pa_cons (pe_lc (own := [("at", 7)]) (g := (gName 7)) (tt := tYes) rfl S.nd (pi_range1 (by rfl) Z.range (pa_cons (pe_c0 CO hr (by omega) (by rfl) (pa_cons (pv 1) (pa_cons (pe_lst (pa_cons pe_int (pa_cons pe_int (pa_cons pe_int (pa_cons pe_int (pa_cons pe_int (pa_cons pe_int pa_nil))))))) pa_nil))) pa_nil)) (blkOk_by (N := ["script", "deal", "kinds", "turn", "names", "many", "parts", "at", "body", "proc", "procs", "needs", "module", "rows", "part", "face", "faces", "name", "more", "some", "value", "one", "due"]) (sc := defScope s_law) (by decide +kernel)) (fun _ _ _ _ _ => (pg_name (i := 7) S.nd rfl (Or.inl rfl))) (fun _ _ _ _ _ => pts_nil) (fun _ _ _ _ _ => (pe_op op_catS pe_str (pe_callTy call_str_int (by rfl) Z.str (by decide +kernel) (pa_cons (pv 7) pa_nil))))) pa_nil)) pa_nil)))
      (pss_cons (ps_set (i := 12) S.nd rfl (Or.inl rfl) (pe_tup (pa_cons pe_str (pa_cons (pe_ix ix_list (pv 4) pe_int (fun _ _ => rfl)) (pa_cons (pe_c0 CO hr (by omega) (by rfl) (pa_cons (pv 1) (pa_cons (pe_lst (pa_cons pe_int (pa_cons pe_int (pa_cons pe_int (pa_cons pe_int (pa_cons pe_int pa_nil)))))) pa_nil))) (pa_cons (pv 11) (pa_cons (pe_c0 CO hr (by omega) (by rfl) (pa_cons (pv 1) (pa_cons (pe_lst (pa_cons (pv 10) (pa_cons (pe_tup (pa_cons (pv 9) pa_nil)) (pa_cons (pe_tup (pa_cons (pv 9) (pa_cons (pv 9) pa_nil))) pa_nil)))) pa_nil))) pa_nil)))))))
      (pss_cons (ps_set (i := 13) S.nd rfl (Or.inr rfl) (pe_callTy (call_tuple_of) (by rfl) Z.tuple (by decide +kernel) (pa_cons (pe_lc (own := [("at", 7)]) (g := (gName 7)) (tt := tYes) rfl S.nd (pi_range1 (by rfl) Z.range (pa_cons (pe_c0 CO hr (by omega) (by rfl) (pa_cons (pv 1) (pa_cons (pe_lst (pa_cons pe_int (pa_cons pe_int (pa_cons pe_int (pa_cons pe_int (pa_cons pe_int pa_nil)))))) pa_nil))) pa_nil)) (blkOk_by (N := ["script", "deal", "kinds", "turn", "names", "many", "parts", "at", "body", "proc", "procs", "needs", "module", "rows", "part", "face", "faces", "name", "more", "some", "value", "one", "due"]) (sc := defScope s_law) (by decide +kernel)) (fun _ _ _ _ _ => (pg_name (i := 7) S.nd rfl (Or.inl rfl))) (fun _ _ _ _ _ => pts_nil) (fun _ _ _ _ _ => (pe_tup (pa_cons (pe_op op_catS pe_str (pe_callTy call_str_int (by rfl) Z.str (by decide +kernel) (pa_cons (pv 7) pa_nil))) (pa_cons (pe_callTy ((show CallR _ (.type "tuple") (rTupOf K) from call_tuple_of)) (by rfl) Z.tuple (by decide +kernel) (pa_cons (pe_lc (own := [("part", 14)]) (g := (gName 14)) (tt := tYes) rfl S.nd (pi_range1 (by rfl) Z.range (pa_cons (pv 5) pa_nil)) (blkOk_by (N := ["script", "deal", "kinds", "turn", "names", "many", "parts", "at", "body", "proc", "procs", "needs", "module", "rows", "part", "face", "faces", "name", "more", "some", "value", "one", "due"]) (sc := relS _ (defScope s_law)) (by decide +kernel)) (fun _ _ _ _ _ => (pg_name (i := 14) S.nd rfl (Or.inl rfl))) (fun _ _ _ _ _ => pts_nil) (fun _ _ _ _ _ => (pe_c0 CO hr (by omega) (by rfl) (pa_cons (pv 1) (pa_cons (pv 2) pa_nil))))) pa_nil)) pa_nil))))) pa_nil)))
      (pss_cons (ps_set (i := 15) S.nd rfl (Or.inl rfl) (pe_tup (pa_cons pe_str (pa_cons (pe_ix ix_list (pv 4) pe_int (fun _ _ => rfl)) (pa_cons (pe_op op_add pe_int (pe_c0 CA hr (by omega) (by rfl) (pa_cons (pv 1) (pa_cons pe_int pa_nil)))) (pa_cons (pv 13) pa_nil))))))
      (pss_cons (ps_set (i := 16) S.nd rfl (Or.inl rfl) (pe_ifExp (pt_cmpR op_eq (pe_c0 CA hr (by omega) (by rfl) (pa_cons (pv 1) (pa_cons pe_int pa_nil))) pe_int (nomark _)) (pe_callTy (call_tuple_of) (by rfl) Z.tuple (by decide +kernel) (pa_cons (pe_callB (cr_sortedF) (by rfl) Z.sorted (by decide +kernel) (pa_cons (pe_lc (own := [("name", 17)]) (g := (gName 17)) (tt := tYes) rfl S.nd (pi_list (pv 4)) (blkOk_by (N := ["script", "deal", "kinds", "turn", "names", "many", "parts", "at", "body", "proc", "procs", "needs", "module", "rows", "part", "face", "faces", "name", "more", "some", "value", "one", "due"]) (sc := defScope s_law) (by decide +kernel)) (fun _ _ _ _ _ => (pg_name (i := 17) S.nd rfl (Or.inl rfl))) (fun _ _ _ _ _ => pts_nil) (fun _ _ _ _ _ => (pe_tup (pa_cons pe_str (pa_cons (pv 17) (pa_cons pe_int (pa_cons (pe_slice (show SlR _ (rSlA K) from sl_tupA) (pv 13) po_none (po_some pe_int)) pa_nil))))))) pa_nil)) pa_nil)) (pe_tup (pa_cons (pe_tup (pa_cons pe_str (pa_cons (pe_ix ix_list (pv 4) pe_int (fun _ _ => rfl)) (pa_cons pe_int (pa_cons (pe_slice sl_tupA (pv 13) po_none (po_some pe_int)) pa_nil))))) (pa_cons (pv 15) pa_nil)))))
      (pss_cons (ps_set (i := 18) S.nd rfl (Or.inl rfl) (pe_callTy (call_tuple_of) (by rfl) Z.tuple (by decide +kernel) (pa_cons (pe_callB (cr_sortedF) (by rfl) Z.sorted (by decide +kernel) (pa_cons (pe_lc (own := [("at", 7)]) (g := (gName 7)) (tt := tYes) rfl S.nd (pi_range1 (by rfl) Z.range (pa_cons (pe_c0 CO hr (by omega) (by rfl) (pa_cons (pv 1) (pa_cons (pe_lst (pa_cons pe_int (pa_cons pe_int (pa_cons pe_int pa_nil)))) pa_nil))) pa_nil)) (blkOk_by (N := ["script", "deal", "kinds", "turn", "names", "many", "parts", "at", "body", "proc", "procs", "needs", "module", "rows", "part", "face", "faces", "name", "more", "some", "value", "one", "due"]) (sc := defScope s_law) (by decide +kernel)) (fun _ _ _ _ _ => (pg_name (i := 7) S.nd rfl (Or.inl rfl))) (fun _ _ _ _ _ => pts_nil) (fun _ _ _ _ _ => (pe_tup (pa_cons pe_str (pa_cons (pe_op op_catS pe_str (pe_callTy call_str_int (by rfl) Z.str (by decide +kernel) (pa_cons (pv 7) pa_nil))) (pa_cons pe_int (pa_cons (pe_slice (show SlR _ (rSlA K) from sl_tupA) (pv 13) po_none (po_some pe_int)) pa_nil))))))) pa_nil)) pa_nil)))
      (pss_cons (ps_set (i := 19) S.nd rfl (Or.inl rfl) (pe_lst (pa_cons (pv 9) (pa_cons (pv 12) (pa_cons (pv 15) (pa_cons (pv 16) (pa_cons (pv 18) (pa_cons (pe_tup pa_nil) (pa_cons pe_non (pa_cons pe_str (pa_cons (pe_op op_catA (pe_op op_catA (pe_slice sl_tupA (pv 12) po_none (po_some pe_int)) (pe_tup (pa_cons (pe_tup (pa_cons (pe_ix ix_list (pv 4) pe_int (fun _ _ => rfl)) pa_nil)) pa_nil))) (pe_slice sl_tupA (pv 12) (po_some pe_int) po_none)) (pa_cons (pe_op op_catA (pe_op op_catA (pe_slice sl_tupA (pv 12) po_none (po_some pe_int)) (pe_tup (pa_cons (pe_tup (pa_cons pe_str (pa_cons pe_str pa_nil))) pa_nil))) (pe_slice sl_tupA (pv 12) (po_some pe_int) po_none)) (pa_cons (pe_revT (pv 16)) pa_nil)))))))))))))
      (pss_one (ps_for PassesOwn.never rfl (pi_list (pe_op op_cat (pe_op op_cat (pv 19) (pe_lc (own := [("one", 21)]) (g := (gName 21)) (tt := tYes) rfl S.nd (pi_list (pe_slice sl_list (pv 19) po_none (po_some pe_int))) (blkOk_by (N := ["script", "deal", "kinds", "turn", "names", "many", "parts", "at", "body", "proc", "procs", "needs", "module", "rows", "part", "face", "faces", "name", "more", "some", "value", "one", "due"]) (sc := defScope s_law) (by decide +kernel)) (fun _ _ _ _ _ => (pg_name (i := 21) S.nd rfl (Or.inl rfl))) (fun _ _ _ _ _ => pts_nil) (fun _ _ _ _ _ => (pe_c0 CNe hr (by omega) (by rfl) (pa_cons (pv 1) (pa_cons (pv 21) pa_nil)))))) (pe_lc (own := [("one", 21)]) (g := (gName 21)) (tt := tYes) rfl S.nd (pi_list (pe_slice sl_list (pv 19) po_none (po_some pe_int))) (blkOk_by (N := ["script", "deal", "kinds", "turn", "names", "many", "parts", "at", "body", "proc", "procs", "needs", "module", "rows", "part", "face", "faces", "name", "more", "some", "value", "one", "due"]) (sc := defScope s_law) (by decide +kernel)) (fun _ _ _ _ _ => (pg_name (i := 21) S.nd rfl (Or.inl rfl))) (fun _ _ _ _ _ => pts_nil) (fun _ _ _ _ _ => (pe_c0 CNe hr (by omega) (by rfl) (pa_cons (pv 1) (pa_cons (pv 21) pa_nil))))))) (pg_name (i := 20) S.nd rfl (Or.inl rfl)) (pss_cons (ps_set (i := 22) S.nd rfl (Or.inl rfl) (pe_lst (pa_cons (pe_c0 CRp hr (by omega) (by rfl) (pa_cons (pv 20) pa_nil)) (pa_cons (pe_c0 CRm hr (by omega) (by rfl) (pa_cons (pv 20) pa_nil)) (pa_cons (pe_c0 CRf hr (by omega) (by rfl) (pa_cons (pv 20) pa_nil)) (pa_cons (pe_c0 CRs hr (by omega) (by rfl) (pa_cons (pv 20) pa_nil)) pa_nil))))))
      (pss_one (ps_if (pt_not (pt_val (pe_c0 CS hr (by omega) (by rfl) (pa_cons (pe_lst (pa_cons (pe_ck CIp hr (by omega) (by rfl) (pk_cons (pv 20) pk_nil)) (pa_cons (pe_ck CIm hr (by omega) (by rfl) (pk_cons (pv 20) pk_nil)) (pa_cons (pe_ck CIf hr (by omega) (by rfl) (pk_cons (pv 20) pk_nil)) (pa_cons (pe_ck CIs hr (by omega) (by rfl) (pk_cons (pv 20) pk_nil)) pa_nil))))) (pa_cons (pv 22) pa_nil))))) (pss_one (ps_ret pe_bl)) pss_nil)))))))))))))))))))
      (pss_one (ps_ret pe_bl))))), ?_⟩
    try dsimp only [cxOf, Cx.nox, Cx.wish]
    walk_at "w"
    refine ⟨a, ns, 14, rfl, ha, hl, by decide, by decide, fun D L H1 e1 d1 => ?_⟩
    walk_at "w"
    rename_i lk H2 hlk e2 gk
    have d2 := d1.keep e2
    obtain ⟨k1, k2⟩ := d1.fresh hlk
    change H2 lk = some (.lst (kindsS.map V.str)) at gk
    have kk : lk ∉ [D, L] := by simp [k1, k2]
    refine a_rng1 (n := 4) rfl (by omega) (fun i σ' H' => Deal H' D L ∧ H' lk = some (.lst (kindsS.map V.str)) ∧ ∃ x3 x4 x5 x6 x7 x8 x9 x10 x11 x12 x13 x14 x15 x16 x17 x18 x19 x20 x21 x22, σ' = [some (.ref a), some (.ref D), some (.ref lk), x3, x4, x5, x6, x7, x8, x9, x10, x11, x12, x13, x14, x15, x16, x17, x18, x19, x20, x21, x22])
      ⟨d2, gk, _, _, _, _, _, _, _, _, _, _, _, _, _, _, _, _, _, _, _, _, rfl⟩ (fun i σ' H' hi p => ?_) (fun σ' H' p => ?_)
    rotate_left
    · obtain ⟨d, gk, x3, x4, x5, x6, x7, x8, x9, x10, x11, x12, x13, x14, x15, x16, x17, x18, x19, x20, x21, x22, rfl⟩ := p
      walk_at "w"
      exact q _
    clear d1 e1 ha q d2 gk e2 hlk
    obtain ⟨d, gk, x3, x4, x5, x6, x7, x8, x9, x10, x11, x12, x13, x14, x15, x16, x17, x18, x19, x20, x21, x22, rfl⟩ := p
    walk_at "w"
    refine ⟨D, L, 6, rfl, by decide, d, fun pn ss H0 gn lss nds nms n1 n2 _ d0 k0 => ?_⟩
    have gk := k0.at gk kk
    have kn : pn ∉ [D, L] := by simp [n1, n2]
    obtain ⟨s0, s1, s2, s3, s4, s5, rfl⟩ : ∃ s0 s1 s2 s3 s4 s5, ss = [s0, s1, s2, s3, s4, s5] := by
      rcases ss with _ | ⟨s0, _ | ⟨s1, _ | ⟨s2, _ | ⟨s3, _ | ⟨s4, _ | ⟨s5, _ | ⟨s6, r⟩⟩⟩⟩⟩⟩⟩ <;> first | exact ⟨_, _, _, _, _, _, rfl⟩ | (simp at lss; done)
    have nam : ∀ {s : Str} {H : Hp} {n : Nat}, s ∈ [s0, s1, s2, s3, s4, s5] → Oe H n 0 (.str s) := fun h => .s (fine_name (nms _ h)) (name_good (nms _ h))
    clear d k0
    walk_at "w"
    rename_i l1 J1 hl1 f1 g1
    obtain ⟨m1, m2⟩ := d0.fresh hl1
    refine spOf_ints (zs := [0, 1, 3, 19, 20, 21]) (d0.keep f1) g1 m1 m2 (by decide) (by decide) fun z H3 hz d3 k3 kt3 => ?_
    obtain ⟨m, rfl, hm⟩ : ∃ m : Nat, z = (m : Int) ∧ m ≤ 21 := ⟨z.toNat, by simp at hz; omega, by simp at hz; omega⟩
    have gk := k3.at (f1 _ _ gk) kk
    have gn := k3.at (f1 _ _ gn) kn
    clear g1 m1 m2 f1 hl1 kt3 k3 hz d0
    walk_at "w"
    refine a_lcR (n := m) rfl (by omega) (lcR (fun i acc D' H' => Deal H' D L ∧ Kp [D, L] H3 H' ∧ OgA H' 1 1 acc ∧ acc.length = i) (fun D' H2 _ e _ => ⟨d3.keep e, .of e, .nil, rfl⟩) (fun i acc D' H' hi hlt hD hacc p => ?_) (fun acc D' H' _ hD hacc p => ?_))
    · obtain ⟨d', k', og, hl⟩ := p
      obtain ⟨q1, q2⟩ := d3.fresh hD
      walk_at "w"
      refine spOf_strs (ss := kindsS) d' (k'.at gk kk) k1 k2 (by decide) (by decide) (by decide +kernel) fun s H5 hs hf d5 k5 kt5 => ?_
      walk_at "w"
      refine ⟨(i : Int), rfl, num_log (by omega), ?_⟩
      refine r_catS (num_short x_good (by omega)) ?_
      walk_at "w"
      rename_i pt Ht hpt et ht
      have o1 : Oe Ht 1 1 (.ref pt) := OeL.tup (ts := [0, 0]) ht ⟨kinds_good hs, num_good x_good (by omega), trivial⟩ (Nat.le_of_ble_eq_true rfl) (by decide)
      refine k_lc (et _ _ (k5.at hacc (by simp [q1, q2]))) hlt (by omega) fun H9 h9 k9 => ?_
      have kt := Kt.of_mut k9 (et _ _ (k5.at hacc (by simp [q1, q2])))
      exact ⟨(d5.keep et).kpm k9 q1 q2, ((k'.trans k5).ex et).mut hD k9, ((og.kt (kt5.trans (Kt.of_ex et))).kt kt).append (.cons (o1.kt kt) .nil), by simp [hl]⟩
    obtain ⟨d4, k4, opl, hpl⟩ := p
    walk_at "w"
    refine ⟨D', _, rfl, .inl ⟨.of hacc, fun pp hpp => ?_⟩⟩
    have f5 := Ex.new (o := .tup acc) hpp
    have gp : upd H' pp (.tup acc) pp = _ := upd_same
    generalize upd H' pp (.tup acc) = H5 at f5 gp ⊢
    have d5 := d4.keep f5
    have opl := opl.kt (Kt.of_ex f5)
    have gk := f5 _ _ (k4.at gk kk)
    have gn := f5 _ _ (k4.at gn kn)
    have opp : Oe H5 2 22 (.ref pp) := opl.tup gp (by omega) (by omega)
    clear d3 k4 hacc hD hpp f5 d4
    walk_at "w"
    rename_i t1 J1 ht1 f1 g1 t2 J2 ht2 f2 g2 t3 J3 ht3 f3 g3 t4 J4 ht4 f4 g4 t5 J5 ht5 f5 g5 l Jl hl fl gl
    have E4 := f5.trans fl
    have E3 := f4.trans E4
    have E2 := f3.trans E3
    have E1 := f2.trans E2
    have E0 := f1.trans E1
    obtain ⟨m1, m2⟩ := (d5.keep ((((f1.trans f2).trans f3).trans f4).trans f5)).fresh hl
    refine spOf_oe (n := 3) (t := 4) (d5.keep E0) gl m1 m2 (by simp) (by simp) ?_ fun vb H6 ob d6 k6 kt6 => ?_
    · have sk : ∀ {t : Addr}, Jl t = some (.tup [.str "skip"]) → Oe Jl 1 1 (.ref t) := fun h => OeL.tup (n := 0) (ts := [0]) h ⟨.s (by decide +kernel) (by decide +kernel), trivial⟩ (by decide) (by decide)
      have o4 : Oe Jl 2 3 (.ref t4) := OeL.tup (ts := [1, 1]) (E4 _ _ g4) ⟨sk (E2 _ _ g2), sk (E3 _ _ g3), trivial⟩ (Nat.le_of_ble_eq_true rfl) (by decide)
      exact .cons ((sk (E1 _ _ g1)).mono (by decide) (by decide)) (.cons (OeL.tup (ts := [0, 3]) (fl _ _ g5) ⟨.s (by decide +kernel) (by decide +kernel), o4, trivial⟩ (Nat.le_of_ble_eq_true rfl) (by decide)) .nil)
    have kt := (Kt.of_ex E0).trans kt6
    have gk := k6.at (E0 _ _ gk) kk
    have gn := k6.at (E0 _ _ gn) kn
    have gp := kt _ _ gp
    have opl := opl.kt kt
    have opp := opp.kt kt
    clear g1 g2 g3 g4 g5 gl f1 f2 f3 f4 f5 fl E0 E1 E2 E3 E4 m1 m2 kt kt6 k6 ht1 ht2 ht3 ht4 ht5 hl d5
    walk_at "w"
    refine r_ixL (.of gn) (v := .str s0) rfl ?_
    walk_at "w"
    rename_i tp H7 htp f7 gpr l1 J1 hl1 f1 g1
    have d7 := d6.keep f7
    have kt := Kt.of_ex f7
    have gk := f7 _ _ gk
    have gn := f7 _ _ gn
    have gp := f7 _ _ gp
    have opl := opl.kt kt
    have opp := opp.kt kt
    have ob := ob.kt kt
    have opr : Oe H7 4 27 (.ref tp) := OeL.tup (n := 3) (ts := [0, 0, 22, 4]) gpr ⟨.s (by decide +kernel) (by decide +kernel), nam (by simp), opp.mono (by decide) (by decide), ob, trivial⟩ (Nat.le_of_ble_eq_true rfl) (by decide)
    clear f7 kt d6 htp gpr
    obtain ⟨m1, m2⟩ := d7.fresh hl1
    refine spOf_ints (zs := [1, 2, 39, 40, 41]) (d7.keep f1) g1 m1 m2 (by decide) (by decide) fun z H8 hz d8 k8 kt8 => ?_
    obtain ⟨mp, rfl, hmp⟩ : ∃ m : Nat, z = (m : Int) ∧ m ≤ 41 := ⟨z.toNat, by simp at hz; omega, by simp at hz; omega⟩
    have kt := (Kt.of_ex f1).trans kt8
    have gk := k8.at (f1 _ _ gk) kk
    have gn := k8.at (f1 _ _ gn) kn
    have gp := kt _ _ gp
    have opl := opl.kt kt
    have ob := ob.kt kt
    have opr := opr.kt kt
    clear g1 m1 m2 f1 hl1 kt8 k8 hz d7 kt
    walk_at "w"
    refine a_lcR (n := mp) rfl (by omega) (lcR (fun i acc D' H' => Ex H8 H' ∧ OgA H' 4 8 acc ∧ acc.length = i) (fun D' H2 _ e _ => ⟨e, .nil, rfl⟩) (fun i acc D' H' hi hlt hD hacc p => ?_) (fun acc D' H' _ hD hacc p => ?_))
    · obtain ⟨k', og, hl⟩ := p
      walk_at "w"
      refine ⟨(i : Int), rfl, num_log (by omega), ?_⟩
      refine r_catS (num_short p_good (by omega)) ?_
      walk_at "w"
      refine r_slT (k' _ _ gp) fun p2 H9 e9 h9 => ?_
      rw [show ((2 : Int)) = ((2 : Nat) : Int) from rfl, cut_to] at h9
      walk_at "w"
      rename_i pt Ht hpt et ht
      have kt9 := (Kt.of_ex (k'.trans e9)).trans (Kt.of_ex et)
      have o2 : Oe Ht 2 3 (.ref p2) := ((opl.kt kt9).sub fun z hz => List.mem_of_mem_take hz).tup (et _ _ h9) (by rw [List.length_take]; omega) (by rw [List.length_take]; omega)
      have o1 : Oe Ht 4 8 (.ref pt) := OeL.tup (ts := [0, 0, 3, 4]) ht ⟨.s (by decide +kernel) (by decide +kernel), num_good p_good (by omega), o2.mono (by decide) (by decide), ob.kt kt9, trivial⟩ (Nat.le_of_ble_eq_true rfl) (by decide)
      have hacc' := (e9.trans et) _ _ hacc
      refine k_lc hacc' hlt (by omega) fun H10 h10 k10 => ?_
      have kt := Kt.of_mut k10 hacc'
      exact ⟨Ex.mut ((k'.trans e9).trans et) hD k10, ((og.kt (Kt.of_ex (e9.trans et))).kt kt).append (.cons (o1.kt kt) .nil), by simp [hl]⟩
    obtain ⟨e9, oprl, hprl⟩ := p
    walk_at "w"
    refine ⟨D', _, rfl, .inl ⟨.of hacc, fun pq hpq => ?_⟩⟩
    have f10 := Ex.new (o := .tup acc) hpq
    have gq : upd H' pq (.tup acc) pq = _ := upd_same
    generalize upd H' pq (.tup acc) = H10 at f10 gq ⊢
    have e10 := e9.trans f10
    have d10 := d8.keep e10
    have kt := Kt.of_ex e10
    have oq : Oe H10 5 329 (.ref pq) := (oprl.kt (Kt.of_ex f10)).tup gq (by omega) (by omega)
    have gk := e10 _ _ gk
    have gn := e10 _ _ gn
    have gp := kt _ _ gp
    have opl := opl.kt kt
    have ob := ob.kt kt
    have opr := opr.kt kt
    clear e9 f10 e10 kt gq hpq hacc hD oprl hprl d8
    walk_at "w"
    rename_i l1 J1 hl1 f1 g1
    obtain ⟨m1, m2⟩ := d10.fresh hl1
    refine spOf_ints (zs := [0, 1, 3, 19, 20, 21]) (d10.keep f1) g1 m1 m2 (by decide) (by decide) fun z H11 hz d11 k11 kt11 => ?_
    obtain ⟨mn, rfl, hmn⟩ : ∃ m : Nat, z = (m : Int) ∧ m ≤ 21 := ⟨z.toNat, by simp at hz; omega, by simp at hz; omega⟩
    have kt := (Kt.of_ex f1).trans kt11
    have gk := k11.at (f1 _ _ gk) kk
    have gn := k11.at (f1 _ _ gn) kn
    have opr := opr.kt kt
    have oq := oq.kt kt
    clear g1 m1 m2 f1 hl1 kt11 k11 hz d10 kt gp opl ob
    walk_at "w"
    refine a_lcR (n := mn) rfl (by omega) (lcR (fun i acc D' H' => Ex H11 H' ∧ acc = ((List.range i).map (numS "n")).map V.str) (fun D' H2 _ e _ => ⟨e, rfl⟩) (fun i acc D' H' hi hlt hD hacc p => ?_) (fun acc D' H' _ hD hacc p => ?_))
    · obtain ⟨k', rfl⟩ := p
      walk_at "w"
      refine ⟨(i : Int), rfl, num_log (by omega), ?_⟩
      refine r_catS (num_short n_good (by omega)) ?_
      walk_at "w"
      refine k_lc hacc hlt (by omega) fun H10 h10 k10 => ⟨Ex.mut k' hD k10, ?_⟩
      rw [List.range_succ, List.map_append, List.map_append]; rfl
    obtain ⟨e12, rfl⟩ := p
    walk_at "w"
    refine ⟨D', (List.range mn).map (numS "n"), rfl, .of hacc, by simp; omega, fun ys ps hperm _ hps => ?_⟩
    have f13 := Ex.new (o := .lst (ys.map V.str)) hps
    have g13 : upd H' ps (.lst (ys.map V.str)) ps = _ := upd_same
    generalize upd H' ps (.lst (ys.map V.str)) = H13 at f13 g13 ⊢
    walk_at "w"
    refine ⟨ps, _, rfl, .inl ⟨.of g13, fun pd hpd => ?_⟩⟩
    have f14 := Ex.new (o := .tup (ys.map V.str)) hpd
    have g14 : upd H13 pd (.tup (ys.map V.str)) pd = _ := upd_same
    generalize upd H13 pd (.tup (ys.map V.str)) = H14 at f14 g14 ⊢
    have e14 := (e12.trans f13).trans f14
    have kt := Kt.of_ex e14
    have d14 := d11.keep e14
    have ond : Oe H14 1 1 (.ref pd) := by
      refine OgA.tup (n := 0) (t := 0) g14 (fun y hy => ?_) (by rw [List.length_map, hperm.length_eq, List.length_map, List.length_range]; omega) (by omega)
      obtain ⟨s, hs, rfl⟩ := List.mem_map.mp hy
      obtain ⟨j, hj, rfl⟩ := List.mem_map.mp (hperm.mem_iff.mp hs)
      exact num_good n_good (by have := List.mem_range.mp hj; omega)
    have gk := e14 _ _ gk
    have gn := e14 _ _ gn
    have opr := opr.kt kt
    have oq := oq.kt kt
    clear e12 f13 f14 e14 kt g13 g14 hpd hps hperm hacc hD d11
    walk_at "w"
    refine r_ixL (.of gn) (v := .str s1) rfl ?_
    walk_at "w"
    rename_i l1 J1 hl1 f1 g1
    obtain ⟨m1, m2⟩ := d14.fresh hl1
    refine spOf_ints (zs := [0, 1, 8, 64, 65]) (d14.keep f1) g1 m1 m2 (by decide) (by decide) fun zw H15 _ d15 k15 kt15 => ?_
    have kt := (Kt.of_ex f1).trans kt15
    have gk := k15.at (f1 _ _ gk) kk
    have gn := k15.at (f1 _ _ gn) kn
    have opr := opr.kt kt
    have oq := oq.kt kt
    have ond := ond.kt kt
    clear g1 m1 m2 f1 hl1 kt15 k15 d14 kt
    walk_at "w"
    rename_i t1 J1 ht1 f1 g1 t2 J2 ht2 f2 g2 l Jl hl fl gl
    have E1 := f2.trans fl
    have E0 := f1.trans E1
    obtain ⟨m1, m2⟩ := (d15.keep (f1.trans f2)).fresh hl
    refine spOf_oe (n := 5) (t := 329) (d15.keep E0) gl m1 m2 (by simp) (by simp) ?_ fun vq H16 ovq d16 k16 kt16 => ?_
    · have kt := Kt.of_ex E0
      exact .cons (oq.kt kt) (.cons (Oe.mono (OeL.tup (n := 4) (u := 28) (ts := [27]) (E1 _ _ g1) ⟨opr.kt kt, trivial⟩ (Nat.le_of_ble_eq_true rfl) (by decide)) (by decide) (by decide)) (.cons (Oe.mono (OeL.tup (n := 4) (u := 55) (ts := [27, 27]) (fl _ _ g2) ⟨opr.kt kt, opr.kt kt, trivial⟩ (Nat.le_of_ble_eq_true rfl) (by decide)) (by decide) (by decide)) .nil))
    have kt := (Kt.of_ex E0).trans kt16
    have gk := k16.at (E0 _ _ gk) kk
    have gn := k16.at (E0 _ _ gn) kn
    have opr := opr.kt kt
    have ond := ond.kt kt
    clear g1 g2 gl f1 f2 fl E0 E1 m1 m2 kt kt16 k16 ht1 ht2 hl d15 oq
    walk_at "w"
    rename_i tm H17 htm f17 gm l1 J1 hl1 f1 g1
    have kt := Kt.of_ex f17
    have d17 := d16.keep f17
    have gk := f17 _ _ gk
    have gn := f17 _ _ gn
    have opr := opr.kt kt
    have ond := ond.kt kt
    have ovq := ovq.kt kt
    have om : Oe H17 6 331 (.ref tm) := OeL.tup (n := 5) (ts := [0, 0, 0, 1, 329]) gm ⟨.s (by decide +kernel) (by decide +kernel), nam (by simp), .i _, ond.mono (by decide) (by decide), ovq, trivial⟩ (Nat.le_of_ble_eq_true rfl) (by decide)
    clear f17 kt d16 htm
    obtain ⟨m1, m2⟩ := d17.fresh hl1
    refine spOf_ints (zs := [1, 2, 3, 40, 41]) (d17.keep f1) g1 m1 m2 (by decide) (by decide) fun z H18 hz d18 k18 kt18 => ?_
    obtain ⟨mr, rfl, hmr⟩ : ∃ m : Nat, z = (m : Int) ∧ m ≤ 41 := ⟨z.toNat, by simp at hz; omega, by simp at hz; omega⟩
    have kt := (Kt.of_ex f1).trans kt18
    have gk := k18.at (f1 _ _ gk) kk
    have gn := k18.at (f1 _ _ gn) kn
    have gm := kt _ _ gm
    have opr := opr.kt kt
    have ond := ond.kt kt
    have ovq := ovq.kt kt
    have om := om.kt kt
    clear g1 m1 m2 f1 hl1 kt18 k18 hz d17 kt
    walk_at "w"
    refine a_lcR (n := mr) rfl (by omega) (lcR (fun i acc D' H' => Deal H' D L ∧ Kp [D, L] H18 H' ∧ OgA H' 2 2 acc ∧ acc.length = i) (fun D' H2 _ e _ => ⟨d18.keep e, .of e, .nil, rfl⟩) (fun i acc D' H' hi hlt hD hacc p => ?_) (fun acc D' H' _ hD hacc p => ?_))
    · obtain ⟨d', k', og, hl⟩ := p
      obtain ⟨q1, q2⟩ := d18.fresh hD
      walk_at "w"
      refine ⟨(i : Int), rfl, num_log (by omega), ?_⟩
      refine r_catS (num_short p_good (by omega)) ?_
      walk_at "w"
      refine a_lcR (n := m) rfl (by omega) (lcR (fun i2 acc2 D2 H2 => Deal H2 D L ∧ Kp [D, L] H' H2 ∧ OgA H2 0 0 acc2 ∧ acc2.length = i2) (fun D2 H2 _ e _ => ⟨d'.keep e, .of e, .nil, rfl⟩) (fun i2 acc2 D2 H2 hi2 hlt2 hD2 hacc2 p2 => ?_) (fun acc2 D2 H2 _ hD2 hacc2 p2 => ?_))
      · obtain ⟨d2, k2', og2, hl2⟩ := p2
        obtain ⟨u1, u2⟩ := d'.fresh hD2
        walk_at "w"
        refine spOf_strs (ss := kindsS) d2 (k2'.at (k'.at gk kk) kk) k1 k2 (by decide) (by decide) (by decide +kernel) fun s H5 hs hf d5 k5 kt5 => ?_
        have hacc5 := k5.at hacc2 (by simp [u1, u2])
        refine k_lc hacc5 hlt2 (by omega) fun H9 h9 k9 => ?_
        have kt := Kt.of_mut k9 hacc5
        exact ⟨d5.kpm k9 u1 u2, (k2'.trans k5).mut hD2 k9, ((og2.kt kt5).kt kt).append (.cons (kinds_good hs) .nil), by simp [hl2]⟩
      obtain ⟨d2, k2', og2, hl2⟩ := p2
      refine ⟨D2, _, rfl, .inl ⟨.of hacc2, fun pt hpt => ?_⟩⟩
      have f3 := Ex.new (o := .tup acc2) hpt
      have g3 : upd H2 pt (.tup acc2) pt = _ := upd_same
      generalize upd H2 pt (.tup acc2) = H3 at f3 g3 ⊢
      walk_at "w"
      rename_i pu Hu hpu eu hu
      have o2 : Oe Hu 1 1 (.ref pt) := (og2.kt (Kt.of_ex (f3.trans eu))).tup (eu _ _ g3) (by omega) (by omega)
      have o1 : Oe Hu 2 2 (.ref pu) := OeL.tup (ts := [0, 1]) hu ⟨num_good p_good (by omega), o2, trivial⟩ (Nat.le_of_ble_eq_true rfl) (by decide)
      have kq := (k2'.ex f3).ex eu
      have haccu := kq.at hacc (by simp [q1, q2])
      refine k_lc haccu hlt (by omega) fun H9 h9 k9 => ?_
      have kt := Kt.of_mut k9 haccu
      have ktu := ((Kt.of_kp k2' d').trans (Kt.of_ex f3)).trans (Kt.of_ex eu)
      exact ⟨((d2.keep f3).keep eu).kpm k9 q1 q2, (k'.trans kq).mut hD k9, ((og.kt ktu).kt kt).append (.cons (o1.kt kt) .nil), by simp [hl]⟩
    obtain ⟨d19, k19, orl, hrl⟩ := p
    walk_at "w"
    refine ⟨D', _, rfl, .inl ⟨.of hacc, fun pr hpr => ?_⟩⟩
    have f20 := Ex.new (o := .tup acc) hpr
    have gr : upd H' pr (.tup acc) pr = _ := upd_same
    generalize upd H' pr (.tup acc) = H20 at f20 gr ⊢
    have d20 := d19.keep f20
    have kt := (Kt.of_kp k19 d18).trans (Kt.of_ex f20)
    have gk := f20 _ _ (k19.at gk kk)
    have gn := f20 _ _ (k19.at gn kn)
    have gm := kt _ _ gm
    have opr := opr.kt kt
    have ond := ond.kt kt
    have ovq := ovq.kt kt
    have om := om.kt kt
    have orl := orl.kt (Kt.of_ex f20)
    have hrl' : acc.length ≤ 41 := by omega
    have orr : Oe H20 3 83 (.ref pr) := orl.tup gr (by omega) (by omega)
    clear k19 f20 kt hacc hD hpr d18 d19 hrl
    generalize acc = rs at gr orl hrl'
    walk_at "w"
    refine r_ixL (.of gn) (v := .str s2) rfl ?_
    walk_at "w"
    refine ⟨D, L, 64, rfl, d20, by decide, by decide +kernel, fun z H21 _ _ d21 k21 => ?_⟩
    have kt := Kt.of_kp k21 d20
    have gk := k21.at gk kk
    have gn := k21.at gn kn
    have gm := kt _ _ gm
    have gr := kt _ _ gr
    have opr := opr.kt kt
    have ond := ond.kt kt
    have ovq := ovq.kt kt
    have om := om.kt kt
    have orl := orl.kt kt
    have orr := orr.kt kt
    clear k21 kt d20
    walk_at "w"
    rename_i tf H22 htf f22 gf
    have d22 := d21.keep f22
    have kt := Kt.of_ex f22
    have gk := f22 _ _ gk
    have gn := f22 _ _ gn
    have gm := kt _ _ gm
    have gr := kt _ _ gr
    have opr := opr.kt kt
    have ond := ond.kt kt
    have ovq := ovq.kt kt
    have om := om.kt kt
    have orl := orl.kt kt
    have ofc : Oe H22 4 84 (.ref tf) := OeL.tup (n := 3) (ts := [0, 0, 0, 83]) gf ⟨.s (by decide +kernel) (by decide +kernel), nam (by simp), .i _, orr.kt kt, trivial⟩ (Nat.le_of_ble_eq_true rfl) (by decide)
    clear f22 kt d21 htf gf orr
    refine ⟨D, L, 2, rfl, d22, by decide, by decide +kernel, fun z H23 _ _ d23 k23 => ?_⟩
    have kt := Kt.of_kp k23 d22
    have gk := k23.at gk kk
    have gn := k23.at gn kn
    have gm := kt _ _ gm
    have gr := kt _ _ gr
    have opr := opr.kt kt
    have ond := ond.kt kt
    have ovq := ovq.kt kt
    have om := om.kt kt
    have orl := orl.kt kt
    have ofc := ofc.kt kt
    clear k23 kt d22
    walk_at "w"
    have face1 : ∀ {H' : Hp} {p2 t : Addr} {s : Str}, Ex H23 H' → okHead (.str s) = true → fine 0 (.str s) = true → H' p2 = some (.tup (rs.take 1)) → H' t = some (.tup [.str "face", .str s, .int 8, .ref p2]) → Oe H' 4 4 (.ref t) := fun e h1 h2 g2 gt => by
      have o2 : Oe _ 3 3 (.ref _) := ((orl.kt (Kt.of_ex e)).sub fun z hz => List.mem_of_mem_take hz).tup g2 (by rw [List.length_take]; omega) (by rw [List.length_take]; omega)
      exact OeL.tup (n := 3) (ts := [0, 0, 0, 3]) gt ⟨.s (by decide +kernel) (by decide +kernel), .s h2 h1, .i _, o2, trivial⟩ (Nat.le_of_ble_eq_true rfl) (by decide)
    refine w_ifJoin (fun v H' => Ex H23 H' ∧ ∃ pf ys t, v = .ref pf ∧ H' pf = some (.tup ys) ∧ OgA H' 4 t ys ∧ ys.length ≤ 6 ∧ 1 + ys.length * t ≤ 400) (fun Q' key _ => ?_) (fun Q' key _ => ?_) fun v16 H24 p => ?_
    · walk_at "w"
      refine k_lcL (.of gn) (lcL (xs := [s0, s1, s2, s3, s4, s5].map V.str) (fun i acc D' H' => Ex H23 H' ∧ ∃ ts : List Addr, acc = ts.map V.ref ∧ ts.length = i ∧ ∀ (j : Nat) (t : Addr) (s : Str), ts[j]? = some t → [s0, s1, s2, s3, s4, s5][j]? = some s → ∃ p2, H' p2 = some (.tup (rs.take 1)) ∧ H' t = some (.tup [.str "face", .str s, .int 8, .ref p2])) (fun D' H2 _ e _ => ⟨e, [], rfl, rfl, fun j t s h => by simp at h⟩) (fun i acc D' H' _ p => .of (p.1 _ _ gn)) (fun i x acc D' H' hx hlt hD hacc p => ?_) (fun acc D' H' _ hD hacc p => ?_))
      · obtain ⟨e, ts, rfl, hts, hf⟩ := p
        obtain ⟨s, hs, rfl⟩ := map_some hx
        have hi := (List.getElem?_eq_some_iff.mp hs).1
        walk_at "w"
        refine r_slT (e _ _ gr) fun p2 H9 e9 h9 => ?_
        rw [show ((1 : Int)) = ((1 : Nat) : Int) from rfl, cut_to] at h9
        walk_at "w"
        rename_i pt Ht hpt et ht
        have hacct := (e9.trans et) _ _ hacc
        refine k_lc hacct hlt (by simp at hi; omega) fun H10 h10 k10 => ⟨Ex.mut ((e.trans e9).trans et) hD k10, ts ++ [pt], by rw [List.map_append]; rfl, by simp [hts], fun j t s' hj hs' => ?_⟩
        have kt := Kt.of_mut k10 hacct
        by_cases hji : j < ts.length
        · rw [List.getElem?_append_left hji] at hj
          obtain ⟨p3, a1, a2⟩ := hf j t s' hj hs'
          have ktf := (Kt.of_ex (e9.trans et)).trans kt
          exact ⟨p3, ktf _ _ a1, ktf _ _ a2⟩
        · rw [List.getElem?_append_right (by omega)] at hj
          have hj0 : j - ts.length = 0 := by
            rcases Nat.eq_zero_or_pos (j - ts.length) with h | h
            · exact h
            · rw [List.getElem?_eq_none (by simp; omega)] at hj
              cases hj
          rw [hj0] at hj
          cases hj
          have : j = i := by omega
          subst this
          rw [hs] at hs'
          cases hs'
          exact ⟨p2, kt _ _ (et _ _ h9), kt _ _ ht⟩
      obtain ⟨e, ts, rfl, hts, hf⟩ := p
      walk_at "w"
      refine sortF hacc hts nds (fun j t s h1 h2 => let ⟨p2, _, a⟩ := hf j t s h1 h2; ⟨_, _, a⟩) fun ys ps H13 hperm _ f13 g13 => ?_
      walk_at "w"
      refine ⟨ps, _, rfl, .inl ⟨.of g13, fun pd hpd => ?_⟩⟩
      have f14 := Ex.new (o := .tup ys) hpd
      have g14 : upd H13 pd (.tup ys) pd = _ := upd_same
      generalize upd H13 pd (.tup ys) = H14 at f14 g14 ⊢
      have hyl : ys.length = 6 := by rw [hperm.length_eq, List.length_map, hts]; rfl
      refine key _ _ ⟨(e.trans f13).trans f14, pd, ys, 4, rfl, g14, fun y hy => ?_, by omega, by omega⟩
      obtain ⟨t, ht, rfl⟩ := List.mem_map.mp (hperm.mem_iff.mp hy)
      obtain ⟨j, hj⟩ := List.getElem?_of_mem ht
      obtain ⟨s, hs⟩ := get_of_len (ys := [s0, s1, s2, s3, s4, s5]) hts hj
      obtain ⟨p2, a1, a2⟩ := hf j t s hj hs
      have hsm := nms s (List.mem_of_getElem? hs)
      have f := f13.trans f14
      exact face1 ((e.trans f13).trans f14) (name_good hsm) (fine_name hsm) (f _ _ a1) (f _ _ a2)
    · walk_at "w"
      refine r_ixL (.of gn) (v := .str s3) rfl ?_
      walk_at "w"
      refine r_slT gr fun p2 H9 e9 h9 => ?_
      rw [show ((1 : Int)) = ((1 : Nat) : Int) from rfl, cut_to] at h9
      walk_at "w"
      rename_i pt Ht hpt et ht pu Hu hpu eu hu
      have ee := (e9.trans et).trans eu
      have hsm := nms s3 (by simp)
      have o1 := face1 ee (name_good hsm) (fine_name hsm) ((et.trans eu) _ _ h9) (eu _ _ ht)
      exact key _ _ ⟨ee, pu, _, 84, rfl, hu, .cons (o1.mono (by decide) (by decide)) (.cons (ofc.kt (Kt.of_ex ee)) .nil), by simp, by simp⟩
    obtain ⟨e24, pf, fs, tf', rfl, gf, ofs, hfl, hft⟩ := p
    have d24 := d23.keep e24
    have kt := Kt.of_ex e24
    have gk := e24 _ _ gk
    have gn := e24 _ _ gn
    have gm := kt _ _ gm
    have gr := kt _ _ gr
    have opr := opr.kt kt
    have ond := ond.kt kt
    have ovq := ovq.kt kt
    have om := om.kt kt
    have orl := orl.kt kt
    have ofc := ofc.kt kt
    have off : Oe H24 5 400 (.ref pf) := ofs.tup gf (by omega) hft
    clear e24 kt d23 face1
    walk_at "w"
    rename_i l1 J1 hl1 f1 g1
    obtain ⟨m1, m2⟩ := d24.fresh hl1
    refine spOf_ints (zs := [39, 40, 41]) (d24.keep f1) g1 m1 m2 (by decide) (by decide) fun z H25 hz d25 k25 kt25 => ?_
    obtain ⟨mm, rfl, hmm⟩ : ∃ m : Nat, z = (m : Int) ∧ m ≤ 41 := ⟨z.toNat, by simp at hz; omega, by simp at hz; omega⟩
    have kt := (Kt.of_ex f1).trans kt25
    have gk := k25.at (f1 _ _ gk) kk
    have gn := k25.at (f1 _ _ gn) kn
    have gm := kt _ _ gm
    have gr := kt _ _ gr
    have gf := kt _ _ gf
    have opr := opr.kt kt
    have ond := ond.kt kt
    have ovq := ovq.kt kt
    have om := om.kt kt
    have orl := orl.kt kt
    have ofc := ofc.kt kt
    have ofs := ofs.kt kt
    have off := off.kt kt
    clear g1 m1 m2 f1 hl1 kt25 k25 hz d24 kt
    walk_at "w"
    refine a_lcR (n := mm) rfl (by omega) (lcR (fun i acc D' H' => Ex H25 H' ∧ ∃ ts : List Addr, acc = ts.map V.ref ∧ ts.length = i ∧ ∀ (j : Nat) (t : Addr), ts[j]? = some t → ∃ p2, H' p2 = some (.tup (rs.take 1)) ∧ H' t = some (.tup [.str "face", .str (numS "f" j), .int 8, .ref p2])) (fun D' H2 _ e _ => ⟨e, [], rfl, rfl, fun j t h => by simp at h⟩) (fun i acc D' H' hi hlt hD hacc p => ?_) (fun acc D' H' _ hD hacc p => ?_))
    · obtain ⟨e, ts, rfl, hts, hf⟩ := p
      walk_at "w"
      refine ⟨(i : Int), rfl, num_log (by omega), ?_⟩
      refine r_catS (num_short f_good (by omega)) ?_
      walk_at "w"
      refine r_slT (e _ _ gr) fun p2 H9 e9 h9 => ?_
      rw [show ((1 : Int)) = ((1 : Nat) : Int) from rfl, cut_to] at h9
      walk_at "w"
      rename_i pt Ht hpt et ht
      have hacct := (e9.trans et) _ _ hacc
      refine k_lc hacct hlt (by omega) fun H10 h10 k10 => ⟨Ex.mut ((e.trans e9).trans et) hD k10, ts ++ [pt], by rw [List.map_append]; rfl, by simp [hts], fun j t hj => ?_⟩
      have kt := Kt.of_mut k10 hacct
      by_cases hji : j < ts.length
      · rw [List.getElem?_append_left hji] at hj
        obtain ⟨p3, a1, a2⟩ := hf j t hj
        have ktf := (Kt.of_ex (e9.trans et)).trans kt
        exact ⟨p3, ktf _ _ a1, ktf _ _ a2⟩
      · rw [List.getElem?_append_right (by omega)] at hj
        have hj0 : j - ts.length = 0 := by
          rcases Nat.eq_zero_or_pos (j - ts.length) with h | h
          · exact h
          · rw [List.getElem?_eq_none (by simp; omega)] at hj
            cases hj
        rw [hj0] at hj
        cases hj
        have : j = i := by omega
        subst this
        exact ⟨p2, kt _ _ (et _ _ h9), kt _ _ ht⟩
    obtain ⟨e, ts, rfl, hts, hf⟩ := p
    walk_at "w"
    refine sortF (ss := (List.range mm).map (numS "f")) hacc (by simp [hts]) (range_nodup f_nodup (by omega)) (fun j t s h1 h2 => ?_) fun ys ps H13 hperm _ f13 g13 => ?_
    · obtain ⟨p2, _, a⟩ := hf j t h1
      obtain ⟨j', hj', rfl⟩ := map_some h2
      obtain ⟨hj1, hj2⟩ := List.getElem?_eq_some_iff.mp hj'
      rw [List.getElem_range] at hj2
      subst hj2
      exact ⟨_, _, a⟩
    walk_at "w"
    refine ⟨ps, _, rfl, .inl ⟨.of g13, fun pw hpw => ?_⟩⟩
    have f14 := Ex.new (o := .tup ys) hpw
    have g14 : upd H13 pw (.tup ys) pw = _ := upd_same
    generalize upd H13 pw (.tup ys) = H14 at f14 g14 ⊢
    have hyl : ys.length ≤ 41 := by rw [hperm.length_eq, List.length_map, hts]; exact hmm
    have e14 := (e.trans f13).trans f14
    have ow : Oe H14 5 165 (.ref pw) := by
      refine OgA.tup (t := 4) g14 (fun y hy => ?_) (by omega) (by omega)
      obtain ⟨t, ht, rfl⟩ := List.mem_map.mp (hperm.mem_iff.mp hy)
      obtain ⟨j, hj⟩ := List.getElem?_of_mem ht
      obtain ⟨p2, a1, a2⟩ := hf j t hj
      have hjl := (List.getElem?_eq_some_iff.mp hj).1
      have f := f13.trans f14
      have o2 : Oe H14 3 3 (.ref p2) := ((orl.kt (Kt.of_ex e14)).sub fun z hz => List.mem_of_mem_take hz).tup (f _ _ a1) (by rw [List.length_take]; omega) (by rw [List.length_take]; omega)
      exact OeL.tup (n := 3) (ts := [0, 0, 0, 3]) (f _ _ a2) ⟨.s (by decide +kernel) (by decide +kernel), num_good f_good (by omega), .i _, o2, trivial⟩ (Nat.le_of_ble_eq_true rfl) (by decide)
    have d14 := d25.keep e14
    have kt := Kt.of_ex e14
    have gk := e14 _ _ gk
    have gn := e14 _ _ gn
    have gm := kt _ _ gm
    have gf := kt _ _ gf
    have opr := opr.kt kt
    have ond := ond.kt kt
    have ovq := ovq.kt kt
    have om := om.kt kt
    have ofc := ofc.kt kt
    have ofs := ofs.kt kt
    have off := off.kt kt
    clear e f13 f14 e14 kt g13 g14 hpw hperm hacc hD d25 orl gr hf hts hyl
    walk_at "w"
    rename_i te He hte fe ge
    refine r_slT (fe _ _ gm) fun a1 Ha1 ea1 ga1 => ?_
    rw [show ((3 : Int)) = ((3 : Nat) : Int) from rfl, cut_to] at ga1
    walk_at "w"
    refine r_ixL (.of (ea1 _ _ (fe _ _ gn))) (v := .str s1) rfl ?_
    walk_at "w"
    rename_i a2 Ha2 ha2 ea2 ga2 a3 Ha3 ha3 ea3 ga3
    refine r_catT ((ea2.trans ea3) _ _ ga1) ga3 (by simp) fun a4 Ha4 ea4 ga4 => ?_
    walk_at "w"
    have X4 : Ex H14 Ha4 := (((fe.trans ea1).trans ea2).trans ea3).trans ea4
    refine r_slT (X4 _ _ gm) fun a5 Ha5 ea5 ga5 => ?_
    rw [show ((4 : Int)) = ((4 : Nat) : Int) from rfl, cut_from2] at ga5
    walk_at "w"
    refine r_catT (ea5 _ _ ga4) ga5 (by simp) fun a6 Ha6 ea6 ga6 => ?_
    change Ha6 a6 = some (.tup [.str "module", .str s1, .int zw, .ref a2, vq]) at ga6
    walk_at "w"
    have X6 := (X4.trans ea5).trans ea6
    refine r_slT (X6 _ _ gm) fun b1 Hb1 eb1 gb1 => ?_
    rw [show ((3 : Int)) = ((3 : Nat) : Int) from rfl, cut_to] at gb1
    walk_at "w"
    rename_i b2 Hb2 hb2 eb2 gb2 b3 Hb3 hb3 eb3 gb3
    refine r_catT ((eb2.trans eb3) _ _ gb1) gb3 (by simp) fun b4 Hb4 eb4 gb4 => ?_
    walk_at "w"
    have Y4 := (((X6.trans eb1).trans eb2).trans eb3).trans eb4
    refine r_slT (Y4 _ _ gm) fun b5 Hb5 eb5 gb5 => ?_
    rw [show ((4 : Int)) = ((4 : Nat) : Int) from rfl, cut_from2] at gb5
    walk_at "w"
    refine r_catT (eb5 _ _ gb4) gb5 (by simp) fun b6 Hb6 eb6 gb6 => ?_
    change Hb6 b6 = some (.tup [.str "module", .str s1, .int zw, .ref b2, vq]) at gb6
    walk_at "w"
    refine w_revT ?_
    walk_at "w"
    have Y6 := (Y4.trans eb5).trans eb6
    refine k_revT (Y6 _ _ gf) fun c1 Hc1 _ ec1 gc1 => ?_
    walk_at "w"
    rename_i ls Hs hls es gs
    have Z0 : Ex Hb6 Hs := ec1.trans es
    have Z1 : Ex Ha6 Hs := (((((eb1.trans eb2).trans eb3).trans eb4).trans eb5).trans eb6).trans Z0
    have X : Ex H14 Hs := Y6.trans Z0
    have Za2 : Ex Ha2 Hs := ((ea3.trans ea4).trans (ea5.trans ea6)).trans Z1
    have Zb2 : Ex Hb2 Hs := ((eb3.trans eb4).trans (eb5.trans eb6)).trans Z0
    have kt := Kt.of_ex X
    have ds := d14.keep X
    have gk := X _ _ gk
    have md : ∀ {t p2 : Addr}, Hs t = some (.tup [.str "module", .str s1, .int zw, .ref p2, vq]) → Oe Hs 1 1 (.ref p2) → Oe Hs 6 400 (.ref t) := fun h o => OeL.tup (n := 5) (ts := [0, 0, 0, 1, 329]) h ⟨.s (by decide +kernel) (by decide +kernel), nam (by simp), .i _, o.mono (by decide) (by decide), ovq.kt kt, trivial⟩ (Nat.le_of_ble_eq_true rfl) (by decide)
    have o8 : Oe Hs 6 400 (.ref a6) := md (Z1 _ _ ga6) (OeL.tup (n := 0) (ts := [0]) (Za2 _ _ ga2) ⟨nam (by simp), trivial⟩ (Nat.le_of_ble_eq_true rfl) (by decide))
    have o9 : Oe Hs 6 400 (.ref b6) := md (Z0 _ _ gb6) (OeL.tup (n := 0) (ts := [0, 0]) (Zb2 _ _ gb2) ⟨.s (by decide +kernel) (by decide +kernel), .s (by decide +kernel) (by decide +kernel), trivial⟩ (Nat.le_of_ble_eq_true rfl) (by decide))
    have o10 : Oe Hs 6 400 (.ref c1) := Oe.mono (((ofs.kt kt).sub fun z hz => List.mem_reverse.mp hz).tup (es _ _ gc1) (by rw [List.length_reverse]; omega) (by rw [List.length_reverse]; exact hft) : Oe Hs 5 400 (.ref c1)) (by decide) (by decide)
    have o5 : Oe Hs 6 400 (.ref te) := Oe.mono (OeL.tup (n := 0) (ts := []) (u := 1) (((((((ea1.trans ea2).trans ea3).trans ea4).trans ea5).trans ea6).trans Z1) _ _ ge) trivial (Nat.le_of_ble_eq_true rfl) (by decide)) (by decide) (by decide)
    have five : ∀ y ∈ [V.ref tp, .ref tm, .ref tf, .ref pf, .ref pw], Oe Hs 6 400 y := fun y hy => by
      simp only [List.mem_cons, List.not_mem_nil, or_false] at hy
      rcases hy with rfl | rfl | rfl | rfl | rfl
      · exact (opr.kt kt).mono (by decide) (by decide)
      · exact (om.kt kt).mono (by decide) (by decide)
      · exact (ofc.kt kt).mono (by decide) (by decide)
      · exact (off.kt kt).mono (by decide) (by decide)
      · exact (ow.kt kt).mono (by decide) (by decide)
    have vals : ∀ M, ∀ y ∈ [V.ref tp, .ref tm, .ref tf, .ref pf, .ref pw, .ref te, .non, .str "proc", .ref a6, .ref b6, .ref c1], VG M Hs y := fun M y hy => by
      have hy' : y ∈ [V.ref tp, .ref tm, .ref tf, .ref pf, .ref pw] ∨ y = .ref te ∨ y = .non ∨ y = .str "proc" ∨ y = .ref a6 ∨ y = .ref b6 ∨ y = .ref c1 := by
        simp only [List.mem_cons, List.not_mem_nil, or_false] at hy ⊢
        rcases hy with h | h | h | h | h | h | h | h | h | h | h <;> simp [h]
      rcases hy' with h | rfl | rfl | rfl | rfl | rfl | rfl
      · exact (five y h).vg (by decide) (by decide) M
      · exact o5.vg (by decide) (by decide) M
      · exact ⟨.none, .non, by decide +kernel, Nat.zero_le _, rfl⟩
      · exact ⟨.str "proc", .str _, by decide +kernel, Nat.zero_le _, rfl⟩
      · exact o8.vg (by decide) (by decide) M
      · exact o9.vg (by decide) (by decide) M
      · exact o10.vg (by decide) (by decide) M
    have gs : Hs ls = some (.lst [V.ref tp, .ref tm, .ref tf, .ref pf, .ref pw, .ref te, .non, .str "proc", .ref a6, .ref b6, .ref c1]) := gs
    have hys5 : ([V.ref tp, .ref tm, .ref tf, .ref pf, .ref pw, .ref te, .non, .str "proc", .ref a6, .ref b6, .ref c1]).take 5 = [V.ref tp, .ref tm, .ref tf, .ref pf, .ref pw] := rfl
    have hysl : ([V.ref tp, .ref tm, .ref tf, .ref pf, .ref pw, .ref te, .non, .str "proc", .ref a6, .ref b6, .ref c1]).length = 11 := rfl
    generalize [V.ref tp, .ref tm, .ref tf, .ref pf, .ref pw, .ref te, .non, .str "proc", .ref a6, .ref b6, .ref c1] = ys at vals gs hys5 hysl
    generalize [V.ref tp, .ref tm, .ref tf, .ref pf, .ref pw] = y5 at five hys5
    obtain ⟨ls1, ls2⟩ := (d14.keep (Y6.trans ec1)).fresh hls
    have kls : ls ∉ [D, L] := by simp [ls1, ls2]
    clear o8 o9 o10 o5 md Z0 Z1 X Za2 Zb2 kt X4 X6 Y4 Y6 ge ga1 ga2 ga3 ga4 ga5 ga6 gb1 gb2 gb3 gb4 gb5 gb6 gc1 fe ea1 ea2 ea3 ea4 ea5 ea6 eb1 eb2 eb3 eb4 eb5 eb6 ec1 es opr ond ovq om ofc ofs off ow gf gm gn nam nms d14 hls
    refine r_slL (.of gs) fun l5 H5 hl5 e5 g5 => ?_
    rw [show ((5 : Int)) = ((5 : Nat) : Int) from rfl, cut_to, hys5] at g5
    have d5 := ds.keep e5
    obtain ⟨u1, u2⟩ := ds.fresh hl5
    have VGkp : ∀ {M : List Addr} {H H' : Hp} {y : V}, VG (D :: L :: M) H y → Kp [D, L] H H' → Deal H D L → VG (D :: L :: M) H' y := fun h k dl => let ⟨d, a, b⟩ := h; ⟨d, Dv.kpDL' a k dl, b⟩
    walk_at "w"
    refine k_lcL (.of g5) (lcL (xs := y5) (fun i acc Dc H' => Deal H' D L ∧ Kp [D, L] H5 H' ∧ ∀ y ∈ acc, VG (D :: L :: [Dc]) H' y) (fun Dc H2 _ e _ => ⟨d5.keep e, .of e, by simp⟩) (fun i acc Dc H' _ p => .of (p.2.1.at g5 (by simp [u1, u2]))) (fun i x acc Dc H' hx hlt hD hacc p => ?_) (fun acc Dc H7 hal hD hacc p => ?_))
    · obtain ⟨d', k', hv⟩ := p
      obtain ⟨q1, q2⟩ := d5.fresh hD
      obtain ⟨dx, ox, fx, tx, ux, bx, _⟩ := ((five x (List.mem_of_getElem? hx)).kt (Kt.of_ex e5)).kt (Kt.of_kp k' d5)
      walk_at "w"
      refine ⟨D, L, [Dc], x, dx, 6, 90, rfl, (fun a ha => by rw [List.mem_singleton.mp ha, hacc]; simp), ox _, fx, by decide, tx, by decide, Nat.le_trans ux (by decide), d', fun v dv H9 a1 near a2 _ a4 d9 k9 => ?_⟩
      have hacc9 := k9.at hacc (by simp [q1, q2])
      refine k_lc hacc9 hlt (by have := (List.getElem?_eq_some_iff.mp hx).1; have := congrArg List.length hys5; rw [List.length_take] at this; omega) fun H10 h10 k10 => ?_
      have kd : Kd (D :: L :: [Dc]) H9 H10 := ⟨fun a xs h => k10 _ _ (fun z => by rw [z, hacc9] at h; cases h) h, fun a xs h n => k10 _ _ (fun z => n (by rw [z]; simp)) h⟩
      refine ⟨d9.kpm k10 q1 q2, (k'.trans k9).mut hD k10, fun y hy => ?_⟩
      rcases List.mem_append.mp hy with hy | hy
      · exact (VGkp (hv y hy) k9 d').kd kd
      · rw [List.mem_singleton.mp hy]
        exact VG.kd ⟨dv, a1, fine.mono a2 (by decide), Nat.le_trans a4 ux, near_noBad near bx⟩ kd
    obtain ⟨d7, k7, hv1⟩ := p
    have gs7 := k7.at (e5 _ _ gs) kls
    have hy5l : y5.length ≤ 5 := by
      have := congrArg List.length hys5
      rw [List.length_take] at this
      omega
    walk_at "w"
    refine r_cat gs7 hacc (by omega) fun lq H8 hlq e8 gq => ?_
    have e58 := (Kp.of e5).trans (k7.ex e8)
    walk_at "w"
    refine r_slL (.of (e8 _ _ gs7)) fun l6 H9 hl6 e9 g9 => ?_
    rw [show ((5 : Int)) = ((5 : Nat) : Int) from rfl, cut_to, hys5] at g9
    have d8 := d7.keep e8
    have d9 := d8.keep e9
    obtain ⟨w1, w2⟩ := d8.fresh hl6
    obtain ⟨j1, j2⟩ := d7.fresh hlq
    have k59 : Kp [D, L] Hs H9 := e58.ex e9
    have kts9 : Kt Hs H9 := Kt.of_kp k59 ds
    have hv9 : ∀ y ∈ ys ++ acc, VG (D :: L :: [Dc]) H9 y := fun y hy => by
      rcases List.mem_append.mp hy with hy | hy
      · exact VGkp (vals _ y hy) k59 ds
      · exact ((hv1 y hy).ex e8).ex e9
    have gq9 := e9 _ _ gq
    generalize acc = acc1 at *
    walk_at "w"
    refine k_lcL (.of g9) (lcL (xs := y5) (fun i acc D2 H' => Deal H' D L ∧ Kp [D, L] H9 H' ∧ (∀ y ∈ acc, VG (D :: L :: [D2]) H' y) ∧ ∀ y ∈ ys ++ acc1, VG (D :: L :: [D2]) H' y) (fun D2 H2 hD2 e _ => ⟨d9.keep e, .of e, by simp, fun y hy => ((((hv9 y hy).add hD2).sub (fun a ha => by simp only [List.mem_cons, List.not_mem_nil, or_false] at ha ⊢; rcases ha with h | h | h <;> simp [h]))).ex e⟩) (fun i acc D2 H' _ p => .of (p.2.1.at g9 (by simp [w1, w2]))) (fun i x acc D2 H' hx hlt hD2 hacc2 p => ?_) (fun acc D2 H10 hal2 hD2 hacc2 p => ?_))
    · obtain ⟨d', k', hv, hv'⟩ := p
      obtain ⟨q1, q2⟩ := d9.fresh hD2
      obtain ⟨dx, ox, fx, tx, ux, bx, _⟩ := ((five x (List.mem_of_getElem? hx)).kt kts9).kt (Kt.of_kp k' d9)
      walk_at "w"
      refine ⟨D, L, [D2], x, dx, 6, 90, rfl, (fun a ha => by rw [List.mem_singleton.mp ha, hacc2]; simp), ox _, fx, by decide, tx, by decide, Nat.le_trans ux (by decide), d', fun v dv H11 a1 near a2 _ a4 d11 k11 => ?_⟩
      have hacc9 := k11.at hacc2 (by simp [q1, q2])
      refine k_lc hacc9 hlt (by have := (List.getElem?_eq_some_iff.mp hx).1; omega) fun H12 h12 k12 => ?_
      have kd : Kd (D :: L :: [D2]) H11 H12 := ⟨fun a xs h => k12 _ _ (fun z => by rw [z, hacc9] at h; cases h) h, fun a xs h n => k12 _ _ (fun z => n (by rw [z]; simp)) h⟩
      refine ⟨d11.kpm k12 q1 q2, (k'.trans k11).mut hD2 k12, fun y hy => ?_, fun y hy => (VGkp (hv' y hy) k11 d').kd kd⟩
      rcases List.mem_append.mp hy with hy | hy
      · exact (VGkp (hv y hy) k11 d').kd kd
      · rw [List.mem_singleton.mp hy]
        exact VG.kd ⟨dv, a1, fine.mono a2 (by decide), Nat.le_trans a4 ux, near_noBad near bx⟩ kd
    obtain ⟨d10, k10, hv2, hv3⟩ := p
    walk_at "w"
    refine r_cat (k10.at gq9 (by simp [j1, j2])) hacc2 (by rw [List.length_append]; omega) fun lf Hf hlf ef gf => ?_
    have dl := d10.keep ef
    have gk := ef _ _ (k10.at (k59.at gk kk) kk)
    have vf : ∀ y ∈ ys ++ acc1 ++ acc, VG (D :: L :: [D2]) Hf y := fun y hy => by
      rcases List.mem_append.mp hy with hy | hy
      · exact (hv3 y hy).ex ef
      · exact (hv2 y hy).ex ef
    clear hv1 hv2 hv3 hv9 vals five gs7 gs gq gq9 g5 g9 hacc hacc2 e8 e9 ef k7 k10 k59 kts9 e5 d5 d7 d8 d9 d10 ds hys5 e58
    generalize ys ++ acc1 ++ acc = zs at vf gf
    generalize D :: L :: [D2] = M at vf
    walk_at "w"
    refine k_forL (.of gf) (fun i' σ' H' => Ex Hf H' ∧ ∃ x3 x4 x5 x6 x7 x8 x9 x10 x11 x12 x13 x14 x15 x16 x17 x18 x19 x20 x21 x22, σ' = [some (.ref a), some (.ref D), some (.ref lk), x3, x4, x5, x6, x7, x8, x9, x10, x11, x12, x13, x14, x15, x16, x17, x18, x19, x20, x21, x22]) ⟨(fun _ _ h => h), _, _, _, _, _, _, _, _, _, _, _, _, _, _, _, _, _, _, _, _, rfl⟩ (fun i σ' H' _ p => .of (p.1 _ _ gf)) (fun i' y σ' H' hy p => ?_) (fun σ' H' p => ?_)
    rotate_left
    · obtain ⟨e, x3, x4, x5, x6, x7, x8, x9, x10, x11, x12, x13, x14, x15, x16, x17, x18, x19, x20, x21, x22, rfl⟩ := p
      exact ⟨dl.keep e, e _ _ gk, _, _, _, _, _, _, _, _, _, _, _, _, _, _, _, _, _, _, _, _, rfl⟩
    obtain ⟨e, x3, x4, x5, x6, x7, x8, x9, x10, x11, x12, x13, x14, x15, x16, x17, x18, x19, x20, x21, x22, rfl⟩ := p
    obtain ⟨d, dv, gd, gt, gb⟩ := vf y (List.mem_of_getElem? hy)
    have f62 : fine 62 d = true := fine.mono gd (by decide)
    have dv := dv.ex e
    walk_at "w"
    refine ⟨M, y, d, rfl, dv, f62, fun Ha ea => ?_⟩
    walk_at "w"
    refine ⟨M, y, d, rfl, dv.ex ea, f62, fun Hb eb => ?_⟩
    have eb := ea.trans eb
    walk_at "w"
    refine ⟨M, y, d, rfl, dv.ex eb, f62, fun Hc ec => ?_⟩
    have ec := eb.trans ec
    walk_at "w"
    refine ⟨M, y, d, rfl, dv.ex ec, f62, fun Hd ed => ?_⟩
    have ed := ec.trans ed
    walk_at "w"
    rename_i p1 He hp1 ee ge
    have ee := ed.trans ee
    refine k_callK rfl ⟨M, y, d, rfl, dv.ex ee, f62, fun Hg eg => ?_⟩
    walk_at "w"
    refine k_callK rfl ⟨M, y, d, rfl, dv.ex (ee.trans eg), f62, fun Hh eh => ?_⟩
    have eh := eg.trans eh
    walk_at "w"
    refine k_callK rfl ⟨M, y, d, rfl, dv.ex (ee.trans eh), f62, fun Hi ei => ?_⟩
    have ei := eh.trans ei
    walk_at "w"
    refine k_callK rfl ⟨M, y, d, rfl, dv.ex (ee.trans ei), f62, fun Hj ej => ?_⟩
    have ej := ei.trans ej
    walk_at "w"
    rename_i p2 Hk hp2 ek gk2
    have ek := ej.trans ek
    rw [proc_eq (nice.ok (fine.nice gd)) (by decide) gb gt, module_eq (nice.ok (fine.nice gd)) (by decide) gb gt] at gk2
    refine ⟨[], .ref p2, .ref p1, _, _, rfl, dv_blsV (bs := [procG skipsD d, moduleG skipsD d, faceD d, facesD d]) gk2, dv_blsV (bs := [procG skipsD d, moduleG skipsD d, faceD d, facesD d]) (ek _ _ ge), rfl, fun Hl el => ?_⟩
    rw [smD4]
    walk_at "w"
    refine if_df (by rfl) ?_
    walk_at "w"
    exact ⟨((e.trans ee).trans ek).trans el, _, _, _, _, _, _, _, _, _, _, _, _, _, _, _, _, _, _, _, _, rfl⟩
end
end BkL
end
section
namespace BkL
open PySem PySem.Spec PyProof.Rows L2 BkG
theorem all_mk {l : PySem.W.OpenLaw} {w : World} {K : PySem.W.Frag} {h : Heap} {mg : Str → Option Value} {fa : Addr} (X : K.In h) (G : h.Ns mainGlobals mg) (hfa : mg "law" = some (.ref fa))
  {od0 an0 : Option Addr} {sl0 : Array (Option Value)} {f0 : Addr} {oc0 kV0 dc0 pm0 cd0 ct0 : Value}
  {od1 an1 : Option Addr} {sl1 : Array (Option Value)} {f1 : Addr} {oc1 kV1 dc1 pm1 cd1 ct1 : Value}
  {od2 an2 : Option Addr} {sl2 : Array (Option Value)} {f2 : Addr} {oc2 kV2 dc2 pm2 cd2 ct2 : Value}
  {od3 an3 : Option Addr} {sl3 : Array (Option Value)} {f3 : Addr} {oc3 kV3 dc3 pm3 cd3 ct3 : Value}
  {od4 an4 : Option Addr} {sl4 : Array (Option Value)} {f4 : Addr} {oc4 kV4 dc4 pm4 cd4 ct4 : Value}
  {od5 an5 : Option Addr} {sl5 : Array (Option Value)} {f5 : Addr} {oc5 kV5 dc5 pm5 cd5 ct5 : Value}
  {od6 an6 : Option Addr} {sl6 : Array (Option Value)} {f6 : Addr} {oc6 kV6 dc6 pm6 cd6 ct6 : Value}
  {od7 an7 : Option Addr} {sl7 : Array (Option Value)} {f7 : Addr} {oc7 kV7 dc7 pm7 cd7 ct7 : Value}
  {od8 an8 : Option Addr} {sl8 : Array (Option Value)} {f8 : Addr} {oc8 kV8 dc8 pm8 cd8 ct8 : Value}
  {od9 an9 : Option Addr} {sl9 : Array (Option Value)} {f9 : Addr} {oc9 kV9 dc9 pm9 cd9 ct9 : Value}
  {od10 an10 : Option Addr} {sl10 : Array (Option Value)} {f10 : Addr} {oc10 kV10 dc10 pm10 cd10 ct10 : Value}
  {od11 an11 : Option Addr} {sl11 : Array (Option Value)} {f11 : Addr} {oc11 kV11 dc11 pm11 cd11 ct11 : Value}
  {od12 an12 : Option Addr} {sl12 : Array (Option Value)} {f12 : Addr} {oc12 kV12 dc12 pm12 cd12 ct12 : Value}
  {od13 an13 : Option Addr} {sl13 : Array (Option Value)} {f13 : Addr} {oc13 kV13 dc13 pm13 cd13 ct13 : Value}
  {od14 an14 : Option Addr} {sl14 : Array (Option Value)} {f14 : Addr} {oc14 kV14 dc14 pm14 cd14 ct14 : Value}
  {od15 an15 : Option Addr} {sl15 : Array (Option Value)} {f15 : Addr} {oc15 kV15 dc15 pm15 cd15 ct15 : Value}
  {od16 an16 : Option Addr} {sl16 : Array (Option Value)} {f16 : Addr} {oc16 kV16 dc16 pm16 cd16 ct16 : Value}
  {od17 an17 : Option Addr} {sl17 : Array (Option Value)} {f17 : Addr} {oc17 kV17 dc17 pm17 cd17 ct17 : Value}
  {od18 an18 : Option Addr} {sl18 : Array (Option Value)} {f18 : Addr} {oc18 kV18 dc18 pm18 cd18 ct18 : Value}
  {od19 an19 : Option Addr} {sl19 : Array (Option Value)} {f19 : Addr} {oc19 kV19 dc19 pm19 cd19 ct19 : Value}
  {od20 an20 : Option Addr} {sl20 : Array (Option Value)} {f20 : Addr} {oc20 kV20 dc20 pm20 cd20 ct20 : Value}
  {od21 an21 : Option Addr} {sl21 : Array (Option Value)} {f21 : Addr} {oc21 kV21 dc21 pm21 cd21 ct21 : Value}
  {od22 an22 : Option Addr} {sl22 : Array (Option Value)} {f22 : Addr} {oc22 kV22 dc22 pm22 cd22 ct22 : Value}
  {od23 an23 : Option Addr} {sl23 : Array (Option Value)} {f23 : Addr} {oc23 kV23 dc23 pm23 cd23 ct23 : Value}
  {od24 an24 : Option Addr} {sl24 : Array (Option Value)} {f24 : Addr} {oc24 kV24 dc24 pm24 cd24 ct24 : Value}
  {od25 an25 : Option Addr} {sl25 : Array (Option Value)} {f25 : Addr} {oc25 kV25 dc25 pm25 cd25 ct25 : Value}
  {od26 an26 : Option Addr} {sl26 : Array (Option Value)} {f26 : Addr} {oc26 kV26 dc26 pm26 cd26 ct26 : Value}
  {od27 an27 : Option Addr} {sl27 : Array (Option Value)} {f27 : Addr} {oc27 kV27 dc27 pm27 cd27 ct27 : Value}
  {od28 an28 : Option Addr} {sl28 : Array (Option Value)} {f28 : Addr} {oc28 kV28 dc28 pm28 cd28 ct28 : Value}
  {od29 an29 : Option Addr} {sl29 : Array (Option Value)} {f29 : Addr} {oc29 kV29 dc29 pm29 cd29 ct29 : Value}
  {od30 an30 : Option Addr} {sl30 : Array (Option Value)} {f30 : Addr} {oc30 kV30 dc30 pm30 cd30 ct30 : Value}
  {od31 an31 : Option Addr} {sl31 : Array (Option Value)} {f31 : Addr} {oc31 kV31 dc31 pm31 cd31 ct31 : Value}
  {od32 an32 : Option Addr} {sl32 : Array (Option Value)} {f32 : Addr} {oc32 kV32 dc32 pm32 cd32 ct32 : Value}
  {od33 an33 : Option Addr} {sl33 : Array (Option Value)} {f33 : Addr} {oc33 kV33 dc33 pm33 cd33 ct33 : Value}
  {od34 an34 : Option Addr} {sl34 : Array (Option Value)} {f34 : Addr} {oc34 kV34 dc34 pm34 cd34 ct34 : Value}
  {od35 an35 : Option Addr} {sl35 : Array (Option Value)} {f35 : Addr} {oc35 kV35 dc35 pm35 cd35 ct35 : Value}
  {od36 an36 : Option Addr} {sl36 : Array (Option Value)} {f36 : Addr} {oc36 kV36 dc36 pm36 cd36 ct36 : Value}
  {od37 an37 : Option Addr} {sl37 : Array (Option Value)} {f37 : Addr} {oc37 kV37 dc37 pm37 cd37 ct37 : Value}
  {od38 an38 : Option Addr} {sl38 : Array (Option Value)} {f38 : Addr} {oc38 kV38 dc38 pm38 cd38 ct38 : Value}
  {od39 an39 : Option Addr} {sl39 : Array (Option Value)} {f39 : Addr} {oc39 kV39 dc39 pm39 cd39 ct39 : Value}
  {od40 an40 : Option Addr} {sl40 : Array (Option Value)} {f40 : Addr} {oc40 kV40 dc40 pm40 cd40 ct40 : Value}
  {od41 an41 : Option Addr} {sl41 : Array (Option Value)} {f41 : Addr} {oc41 kV41 dc41 pm41 cd41 ct41 : Value}
  {odL anL : Option Addr} {slL : Array (Option Value)} {fL : Addr} {cdL ocL kVL dcL pmL ctL : Value}
  {t0 : Tok}
  {t1 : Tok}
  {t2 : Tok}
  {t3 : Tok}
  {t4 : Tok}
  {t5 : Tok}
  {t6 : Tok}
  {t7 : Tok}
  {t8 : Tok}
  {t9 : Tok}
  {t10 : Tok}
  {w0_0 w0_1 w0_2 w0_3 w0_4 w0_5 w0_6 w0_7 w0_8 w0_9 w0_10 w0_11 w0_12 w0_13 w0_14 w0_15 w0_16 w0_17 w0_18 w0_19 w0_20 w0_21 w0_22 w0_23 w0_24 w0_25 w0_26 w0_27 w0_28 w0_29 w0_30 w0_31 w0_32 w0_33 w0_34 w0_35 w0_36 w0_37 w0_38 w0_39 w0_40 w0_41 w0_42 w0_43 w0_44 w0_45 w0_46 w0_47 w0_48 w0_49 w0_50 w0_51 w0_52 w0_53 w0_54 w0_55 w0_56 w0_57 w0_58 w0_59 w0_60 w0_61 : Tok} {pa0 : Addr} {po0 : Option Addr} {pn0 : Nat} {ps0 : Array (Option Value)}
  {w1_0 w1_1 w1_2 w1_3 w1_4 : Tok} {pa1 : Addr} {po1 : Option Addr} {pn1 : Nat} {ps1 : Array (Option Value)}
  {w2_0 w2_1 w2_2 w2_3 w2_4 w2_5 w2_6 w2_7 w2_8 w2_9 : Tok} {pa2 : Addr} {po2 : Option Addr} {pn2 : Nat} {ps2 : Array (Option Value)}
  {w3_0 w3_1 w3_2 : Tok} {pa3 : Addr} {po3 : Option Addr} {pn3 : Nat} {ps3 : Array (Option Value)}
  {w4_0 w4_1 w4_2 w4_3 : Tok} {pa4 : Addr} {po4 : Option Addr} {pn4 : Nat} {ps4 : Array (Option Value)}
  {w5_0 w5_1 : Tok} {pa5 : Addr} {po5 : Option Addr} {pn5 : Nat} {ps5 : Array (Option Value)}
  (a0 : PySem.W.nsIn K mainGlobals "_law_draw" = some (some (.ref f0)))
  (l0 : K.lookup f0 = some ⟨oc0, od0, .func (PySem.W.fnOf "_law_draw" "_law_draw" (defArgs s_draw) (defBody s_draw) (defScope s_draw) .none kV0 dc0 pm0 an0 cd0 ct0), sl0⟩)
  (c0 : PySem.W.codeIn K cd0 "_law_draw" = true)
  (k0 : PySem.W.keepIn K (.ref f0) = true)
  (a1 : PySem.W.nsIn K mainGlobals "_law_any" = some (some (.ref f1)))
  (l1 : K.lookup f1 = some ⟨oc1, od1, .func (PySem.W.fnOf "_law_any" "_law_any" (defArgs s_any) (defBody s_any) (defScope s_any) .none kV1 dc1 pm1 an1 cd1 ct1), sl1⟩)
  (c1 : PySem.W.codeIn K cd1 "_law_any" = true)
  (k1 : PySem.W.keepIn K (.ref f1) = true)
  (a2 : PySem.W.nsIn K mainGlobals "_law_of" = some (some (.ref f2)))
  (l2 : K.lookup f2 = some ⟨oc2, od2, .func (PySem.W.fnOf "_law_of" "_law_of" (defArgs s_of) (defBody s_of) (defScope s_of) .none kV2 dc2 pm2 an2 cd2 ct2), sl2⟩)
  (c2 : PySem.W.codeIn K cd2 "_law_of" = true)
  (k2 : PySem.W.keepIn K (.ref f2) = true)
  (a3 : PySem.W.nsIn K mainGlobals "_law_is_name" = some (some (.ref f3)))
  (l3 : K.lookup f3 = some ⟨oc3, od3, .func (PySem.W.fnOf "_law_is_name" "_law_is_name" (defArgs s_lisname) (defBody s_lisname) (defScope s_lisname) .none kV3 dc3 pm3 an3 cd3 ct3), sl3⟩)
  (c3 : PySem.W.codeIn K cd3 "_law_is_name" = true)
  (k3 : PySem.W.keepIn K (.ref f3) = true)
  (a4 : PySem.W.nsIn K mainGlobals "_law_letters" = some (some (.ref f4)))
  (l4 : K.lookup f4 = some ⟨oc4, od4, .func (PySem.W.fnOf "_law_letters" "_law_letters" (defArgs s_letters) (defBody s_letters) (defScope s_letters) .none kV4 dc4 pm4 an4 cd4 ct4), sl4⟩)
  (c4 : PySem.W.codeIn K cd4 "_law_letters" = true)
  (k4 : PySem.W.keepIn K (.ref f4) = true)
  (a5 : PySem.W.nsIn K mainGlobals "_law_spots" = some (some (.ref f5)))
  (l5 : K.lookup f5 = some ⟨oc5, od5, .func (PySem.W.fnOf "_law_spots" "_law_spots" (defArgs s_spots) (defBody s_spots) (defScope s_spots) .none kV5 dc5 pm5 an5 cd5 ct5), sl5⟩)
  (c5 : PySem.W.codeIn K cd5 "_law_spots" = true)
  (k5 : PySem.W.keepIn K (.ref f5) = true)
  (a6 : PySem.W.nsIn K mainGlobals "_law_part_at" = some (some (.ref f6)))
  (l6 : K.lookup f6 = some ⟨oc6, od6, .func (PySem.W.fnOf "_law_part_at" "_law_part_at" (defArgs s_partat) (defBody s_partat) (defScope s_partat) .none kV6 dc6 pm6 an6 cd6 ct6), sl6⟩)
  (c6 : PySem.W.codeIn K cd6 "_law_part_at" = true)
  (k6 : PySem.W.keepIn K (.ref f6) = true)
  (a7 : PySem.W.nsIn K mainGlobals "_law_put_at" = some (some (.ref f7)))
  (l7 : K.lookup f7 = some ⟨oc7, od7, .func (PySem.W.fnOf "_law_put_at" "_law_put_at" (defArgs s_putat) (defBody s_putat) (defScope s_putat) .none kV7 dc7 pm7 an7 cd7 ct7), sl7⟩)
  (c7 : PySem.W.codeIn K cd7 "_law_put_at" = true)
  (k7 : PySem.W.keepIn K (.ref f7) = true)
  (a8 : PySem.W.nsIn K mainGlobals "_law_near" = some (some (.ref f8)))
  (l8 : K.lookup f8 = some ⟨oc8, od8, .func (PySem.W.fnOf "_law_near" "_law_near" (defArgs s_nearX) (defBody s_nearX) (defScope s_nearX) .none kV8 dc8 pm8 an8 cd8 ct8), sl8⟩)
  (c8 : PySem.W.codeIn K cd8 "_law_near" = true)
  (k8 : PySem.W.keepIn K (.ref f8) = true)
  (a9 : PySem.W.nsIn K mainGlobals "_law_same" = some (some (.ref f9)))
  (l9 : K.lookup f9 = some ⟨oc9, od9, .func (PySem.W.fnOf "_law_same" "_law_same" (defArgs s_same) (defBody s_same) (defScope s_same) .none kV9 dc9 pm9 an9 cd9 ct9), sl9⟩)
  (c9 : PySem.W.codeIn K cd9 "_law_same" = true)
  (k9 : PySem.W.keepIn K (.ref f9) = true)
  (a10 : PySem.W.nsIn K mainGlobals "_law_are_kinds" = some (some (.ref f10)))
  (l10 : K.lookup f10 = some ⟨oc10, od10, .func (PySem.W.fnOf "_law_are_kinds" "_law_are_kinds" (defArgs s_lkinds) (defBody s_lkinds) (defScope s_lkinds) .none kV10 dc10 pm10 an10 cd10 ct10), sl10⟩)
  (c10 : PySem.W.codeIn K cd10 "_law_are_kinds" = true)
  (k10 : PySem.W.keepIn K (.ref f10) = true)
  (a11 : PySem.W.nsIn K mainGlobals "_law_right_names" = some (some (.ref f11)))
  (l11 : K.lookup f11 = some ⟨oc11, od11, .func (PySem.W.fnOf "_law_right_names" "_law_right_names" (defArgs s_rnames) (defBody s_rnames) (defScope s_rnames) .none kV11 dc11 pm11 an11 cd11 ct11), sl11⟩)
  (c11 : PySem.W.codeIn K cd11 "_law_right_names" = true)
  (k11 : PySem.W.keepIn K (.ref f11) = true)
  (a12 : PySem.W.nsIn K mainGlobals "_law_skips" = some (some (.ref f12)))
  (l12 : K.lookup f12 = some ⟨oc12, od12, .func (PySem.W.fnOf "_law_skips" "_law_skips" (defArgs s_skips) (defBody s_skips) (defScope s_skips) .none kV12 dc12 pm12 an12 cd12 ct12), sl12⟩)
  (c12 : PySem.W.codeIn K cd12 "_law_skips" = true)
  (k12 : PySem.W.keepIn K (.ref f12) = true)
  (a13 : PySem.W.nsIn K mainGlobals "_law_right_proc" = some (some (.ref f13)))
  (l13 : K.lookup f13 = some ⟨oc13, od13, .func (PySem.W.fnOf "_law_right_proc" "_law_right_proc" (defArgs s_rproc) (defBody s_rproc) (defScope s_rproc) .none kV13 dc13 pm13 an13 cd13 ct13), sl13⟩)
  (c13 : PySem.W.codeIn K cd13 "_law_right_proc" = true)
  (k13 : PySem.W.keepIn K (.ref f13) = true)
  (a14 : PySem.W.nsIn K mainGlobals "_law_is_int" = some (some (.ref f14)))
  (l14 : K.lookup f14 = some ⟨oc14, od14, .func (PySem.W.fnOf "_law_is_int" "_law_is_int" (defArgs s_lisint) (defBody s_lisint) (defScope s_lisint) .none kV14 dc14 pm14 an14 cd14 ct14), sl14⟩)
  (c14 : PySem.W.codeIn K cd14 "_law_is_int" = true)
  (k14 : PySem.W.keepIn K (.ref f14) = true)
  (a15 : PySem.W.nsIn K mainGlobals "_law_width" = some (some (.ref f15)))
  (l15 : K.lookup f15 = some ⟨oc15, od15, .func (PySem.W.fnOf "_law_width" "_law_width" (defArgs s_lwidth) (defBody s_lwidth) (defScope s_lwidth) .none kV15 dc15 pm15 an15 cd15 ct15), sl15⟩)
  (c15 : PySem.W.codeIn K cd15 "_law_width" = true)
  (k15 : PySem.W.keepIn K (.ref f15) = true)
  (a16 : PySem.W.nsIn K mainGlobals "_law_rising" = some (some (.ref f16)))
  (l16 : K.lookup f16 = some ⟨oc16, od16, .func (PySem.W.fnOf "_law_rising" "_law_rising" (defArgs s_rising) (defBody s_rising) (defScope s_rising) .none kV16 dc16 pm16 an16 cd16 ct16), sl16⟩)
  (c16 : PySem.W.codeIn K cd16 "_law_rising" = true)
  (k16 : PySem.W.keepIn K (.ref f16) = true)
  (a17 : PySem.W.nsIn K mainGlobals "_law_right_module" = some (some (.ref f17)))
  (l17 : K.lookup f17 = some ⟨oc17, od17, .func (PySem.W.fnOf "_law_right_module" "_law_right_module" (defArgs s_rmod) (defBody s_rmod) (defScope s_rmod) .none kV17 dc17 pm17 an17 cd17 ct17), sl17⟩)
  (c17 : PySem.W.codeIn K cd17 "_law_right_module" = true)
  (k17 : PySem.W.keepIn K (.ref f17) = true)
  (a18 : PySem.W.nsIn K mainGlobals "_law_right_face" = some (some (.ref f18)))
  (l18 : K.lookup f18 = some ⟨oc18, od18, .func (PySem.W.fnOf "_law_right_face" "_law_right_face" (defArgs s_rface) (defBody s_rface) (defScope s_rface) .none kV18 dc18 pm18 an18 cd18 ct18), sl18⟩)
  (c18 : PySem.W.codeIn K cd18 "_law_right_face" = true)
  (k18 : PySem.W.keepIn K (.ref f18) = true)
  (a19 : PySem.W.nsIn K mainGlobals "_law_right_faces" = some (some (.ref f19)))
  (l19 : K.lookup f19 = some ⟨oc19, od19, .func (PySem.W.fnOf "_law_right_faces" "_law_right_faces" (defArgs s_rfaces) (defBody s_rfaces) (defScope s_rfaces) .none kV19 dc19 pm19 an19 cd19 ct19), sl19⟩)
  (c19 : PySem.W.codeIn K cd19 "_law_right_faces" = true)
  (k19 : PySem.W.keepIn K (.ref f19) = true)
  (a20 : PySem.W.nsIn K mainGlobals "is_name" = some (some (.ref f20)))
  (l20 : K.lookup f20 = some ⟨oc20, od20, .func (PySem.W.fnOf "is_name" "is_name" (defArgs s_isname) (defBody s_isname) (defScope s_isname) .none kV20 dc20 pm20 an20 cd20 ct20), sl20⟩)
  (c20 : PySem.W.codeIn K cd20 "is_name" = true)
  (k20 : PySem.W.keepIn K (.ref f20) = true)
  (a21 : PySem.W.nsIn K mainGlobals "is_kind" = some (some (.ref f21)))
  (l21 : K.lookup f21 = some ⟨oc21, od21, .func (PySem.W.fnOf "is_kind" "is_kind" (defArgs s_iskind) (defBody s_iskind) (defScope s_iskind) .none kV21 dc21 pm21 an21 cd21 ct21), sl21⟩)
  (c21 : PySem.W.codeIn K cd21 "is_kind" = true)
  (k21 : PySem.W.keepIn K (.ref f21) = true)
  (a22 : PySem.W.nsIn K mainGlobals "are_parameters" = some (some (.ref f22)))
  (l22 : K.lookup f22 = some ⟨oc22, od22, .func (PySem.W.fnOf "are_parameters" "are_parameters" (defArgs s_parms) (defBody s_parms) (defScope s_parms) .none kV22 dc22 pm22 an22 cd22 ct22), sl22⟩)
  (c22 : PySem.W.codeIn K cd22 "are_parameters" = true)
  (k22 : PySem.W.keepIn K (.ref f22) = true)
  (a23 : PySem.W.nsIn K mainGlobals "is_integer" = some (some (.ref f23)))
  (l23 : K.lookup f23 = some ⟨oc23, od23, .func (PySem.W.fnOf "is_integer" "is_integer" (defArgs s_isint) (defBody s_isint) (defScope s_isint) .none kV23 dc23 pm23 an23 cd23 ct23), sl23⟩)
  (c23 : PySem.W.codeIn K cd23 "is_integer" = true)
  (k23 : PySem.W.keepIn K (.ref f23) = true)
  (a24 : PySem.W.nsIn K mainGlobals "inner_of_expression" = some (some (.ref f24)))
  (l24 : K.lookup f24 = some ⟨oc24, od24, .func (PySem.W.fnOf "inner_of_expression" "inner_of_expression" (defArgs s_inner) (defBody s_inner) (defScope s_inner) .none kV24 dc24 pm24 an24 cd24 ct24), sl24⟩)
  (c24 : PySem.W.codeIn K cd24 "inner_of_expression" = true)
  (k24 : PySem.W.keepIn K (.ref f24) = true)
  (a25 : PySem.W.nsIn K mainGlobals "is_expression" = some (some (.ref f25)))
  (l25 : K.lookup f25 = some ⟨oc25, od25, .func (PySem.W.fnOf "is_expression" "is_expression" (defArgs s_isexp) (defBody s_isexp) (defScope s_isexp) .none kV25 dc25 pm25 an25 cd25 ct25), sl25⟩)
  (c25 : PySem.W.codeIn K cd25 "is_expression" = true)
  (k25 : PySem.W.keepIn K (.ref f25) = true)
  (a26 : PySem.W.nsIn K mainGlobals "is_called" = some (some (.ref f26)))
  (l26 : K.lookup f26 = some ⟨oc26, od26, .func (PySem.W.fnOf "is_called" "is_called" (defArgs s_iscalled) (defBody s_iscalled) (defScope s_iscalled) .none kV26 dc26 pm26 an26 cd26 ct26), sl26⟩)
  (c26 : PySem.W.codeIn K cd26 "is_called" = true)
  (k26 : PySem.W.keepIn K (.ref f26) = true)
  (a27 : PySem.W.nsIn K mainGlobals "are_names" = some (some (.ref f27)))
  (l27 : K.lookup f27 = some ⟨oc27, od27, .func (PySem.W.fnOf "are_names" "are_names" (defArgs s_arenames) (defBody s_arenames) (defScope s_arenames) .none kV27 dc27 pm27 an27 cd27 ct27), sl27⟩)
  (c27 : PySem.W.codeIn K cd27 "are_names" = true)
  (k27 : PySem.W.keepIn K (.ref f27) = true)
  (a28 : PySem.W.nsIn K mainGlobals "is_place" = some (some (.ref f28)))
  (l28 : K.lookup f28 = some ⟨oc28, od28, .func (PySem.W.fnOf "is_place" "is_place" (defArgs s_isplace) (defBody s_isplace) (defScope s_isplace) .none kV28 dc28 pm28 an28 cd28 ct28), sl28⟩)
  (c28 : PySem.W.codeIn K cd28 "is_place" = true)
  (k28 : PySem.W.keepIn K (.ref f28) = true)
  (a29 : PySem.W.nsIn K mainGlobals "is_right_plain" = some (some (.ref f29)))
  (l29 : K.lookup f29 = some ⟨oc29, od29, .func (PySem.W.fnOf "is_right_plain" "is_right_plain" (defArgs s_rplain) (defBody s_rplain) (defScope s_rplain) .none kV29 dc29 pm29 an29 cd29 ct29), sl29⟩)
  (c29 : PySem.W.codeIn K cd29 "is_right_plain" = true)
  (k29 : PySem.W.keepIn K (.ref f29) = true)
  (a30 : PySem.W.nsIn K mainGlobals "is_right_here" = some (some (.ref f30)))
  (l30 : K.lookup f30 = some ⟨oc30, od30, .func (PySem.W.fnOf "is_right_here" "is_right_here" (defArgs s_rhere) (defBody s_rhere) (defScope s_rhere) .none kV30 dc30 pm30 an30 cd30 ct30), sl30⟩)
  (c30 : PySem.W.codeIn K cd30 "is_right_here" = true)
  (k30 : PySem.W.keepIn K (.ref f30) = true)
  (a31 : PySem.W.nsIn K mainGlobals "inner_statements" = some (some (.ref f31)))
  (l31 : K.lookup f31 = some ⟨oc31, od31, .func (PySem.W.fnOf "inner_statements" "inner_statements" (defArgs s_innerst) (defBody s_innerst) (defScope s_innerst) .none kV31 dc31 pm31 an31 cd31 ct31), sl31⟩)
  (c31 : PySem.W.codeIn K cd31 "inner_statements" = true)
  (k31 : PySem.W.keepIn K (.ref f31) = true)
  (a32 : PySem.W.nsIn K mainGlobals "is_statement" = some (some (.ref f32)))
  (l32 : K.lookup f32 = some ⟨oc32, od32, .func (PySem.W.fnOf "is_statement" "is_statement" (defArgs s_isst) (defBody s_isst) (defScope s_isst) .none kV32 dc32 pm32 an32 cd32 ct32), sl32⟩)
  (c32 : PySem.W.codeIn K cd32 "is_statement" = true)
  (k32 : PySem.W.keepIn K (.ref f32) = true)
  (a33 : PySem.W.nsIn K mainGlobals "is_procedure" = some (some (.ref f33)))
  (l33 : K.lookup f33 = some ⟨oc33, od33, .func (PySem.W.fnOf "is_procedure" "is_procedure" (defArgs s_proc) (defBody s_proc) (defScope s_proc) .none kV33 dc33 pm33 an33 cd33 ct33), sl33⟩)
  (c33 : PySem.W.codeIn K cd33 "is_procedure" = true)
  (k33 : PySem.W.keepIn K (.ref f33) = true)
  (a34 : PySem.W.nsIn K mainGlobals "is_width" = some (some (.ref f34)))
  (l34 : K.lookup f34 = some ⟨oc34, od34, .func (PySem.W.fnOf "is_width" "is_width" (defArgs s_iswid) (defBody s_iswid) (defScope s_iswid) .none kV34 dc34 pm34 an34 cd34 ct34), sl34⟩)
  (c34 : PySem.W.codeIn K cd34 "is_width" = true)
  (k34 : PySem.W.keepIn K (.ref f34) = true)
  (a35 : PySem.W.nsIn K mainGlobals "are_ascending" = some (some (.ref f35)))
  (l35 : K.lookup f35 = some ⟨oc35, od35, .func (PySem.W.fnOf "are_ascending" "are_ascending" (defArgs s_asc) (defBody s_asc) (defScope s_asc) .none kV35 dc35 pm35 an35 cd35 ct35), sl35⟩)
  (c35 : PySem.W.codeIn K cd35 "are_ascending" = true)
  (k35 : PySem.W.keepIn K (.ref f35) = true)
  (a36 : PySem.W.nsIn K mainGlobals "are_needs" = some (some (.ref f36)))
  (l36 : K.lookup f36 = some ⟨oc36, od36, .func (PySem.W.fnOf "are_needs" "are_needs" (defArgs s_needs) (defBody s_needs) (defScope s_needs) .none kV36 dc36 pm36 an36 cd36 ct36), sl36⟩)
  (c36 : PySem.W.codeIn K cd36 "are_needs" = true)
  (k36 : PySem.W.keepIn K (.ref f36) = true)
  (a37 : PySem.W.nsIn K mainGlobals "is_module" = some (some (.ref f37)))
  (l37 : K.lookup f37 = some ⟨oc37, od37, .func (PySem.W.fnOf "is_module" "is_module" (defArgs s_module) (defBody s_module) (defScope s_module) .none kV37 dc37 pm37 an37 cd37 ct37), sl37⟩)
  (c37 : PySem.W.codeIn K cd37 "is_module" = true)
  (k37 : PySem.W.keepIn K (.ref f37) = true)
  (a38 : PySem.W.nsIn K mainGlobals "are_kinds" = some (some (.ref f38)))
  (l38 : K.lookup f38 = some ⟨oc38, od38, .func (PySem.W.fnOf "are_kinds" "are_kinds" (defArgs s_arekinds) (defBody s_arekinds) (defScope s_arekinds) .none kV38 dc38 pm38 an38 cd38 ct38), sl38⟩)
  (c38 : PySem.W.codeIn K cd38 "are_kinds" = true)
  (k38 : PySem.W.keepIn K (.ref f38) = true)
  (a39 : PySem.W.nsIn K mainGlobals "is_face_row" = some (some (.ref f39)))
  (l39 : K.lookup f39 = some ⟨oc39, od39, .func (PySem.W.fnOf "is_face_row" "is_face_row" (defArgs s_frow) (defBody s_frow) (defScope s_frow) .none kV39 dc39 pm39 an39 cd39 ct39), sl39⟩)
  (c39 : PySem.W.codeIn K cd39 "is_face_row" = true)
  (k39 : PySem.W.keepIn K (.ref f39) = true)
  (a40 : PySem.W.nsIn K mainGlobals "is_face" = some (some (.ref f40)))
  (l40 : K.lookup f40 = some ⟨oc40, od40, .func (PySem.W.fnOf "is_face" "is_face" (defArgs s_face) (defBody s_face) (defScope s_face) .none kV40 dc40 pm40 an40 cd40 ct40), sl40⟩)
  (c40 : PySem.W.codeIn K cd40 "is_face" = true)
  (k40 : PySem.W.keepIn K (.ref f40) = true)
  (a41 : PySem.W.nsIn K mainGlobals "are_faces" = some (some (.ref f41)))
  (l41 : K.lookup f41 = some ⟨oc41, od41, .func (PySem.W.fnOf "are_faces" "are_faces" (defArgs s_faces) (defBody s_faces) (defScope s_faces) .none kV41 dc41 pm41 an41 cd41 ct41), sl41⟩)
  (c41 : PySem.W.codeIn K cd41 "are_faces" = true)
  (k41 : PySem.W.keepIn K (.ref f41) = true)
  (aL : PySem.W.nsIn K mainGlobals "law" = some (some (.ref fL)))
  (lL : K.lookup fL = some ⟨ocL, odL, .func (PySem.W.fnOf "law" "law" (defArgs s_law) (defBody s_law) (defScope s_law) .none kVL dcL pmL anL cdL ctL), slL⟩)
  (cL_ : PySem.W.codeIn K cdL "law" = true)
  (kL : PySem.W.keepIn K (.ref fL) = true)
  (gc0 : PySem.W.nsIn K mainGlobals "MOST_SIGNS" = some (some (.int 12 t0)))
  (gc1 : PySem.W.nsIn K mainGlobals "LETTERS" = some (some (.str "abcdefghijklmnopqrstuvwxyz" t1)))
  (gc2 : PySem.W.nsIn K mainGlobals "DIGITS" = some (some (.str "0123456789" t2)))
  (gc3 : PySem.W.nsIn K mainGlobals "MOST_KINDS" = some (some (.int 20 t3)))
  (gc4 : PySem.W.nsIn K mainGlobals "MOST_PARTS" = some (some (.int 60 t4)))
  (gc5 : PySem.W.nsIn K mainGlobals "MOST_DEEP" = some (some (.int 20 t5)))
  (gc6 : PySem.W.nsIn K mainGlobals "MOST_STATEMENTS" = some (some (.int 400 t6)))
  (gc7 : PySem.W.nsIn K mainGlobals "MOST_WIDTH" = some (some (.int 64 t7)))
  (gc8 : PySem.W.nsIn K mainGlobals "MOST_NEEDS" = some (some (.int 20 t8)))
  (gc9 : PySem.W.nsIn K mainGlobals "MOST_PROCS" = some (some (.int 40 t9)))
  (gc10 : PySem.W.nsIn K mainGlobals "MOST_SHELF" = some (some (.int 40 t10)))
  (pg0 : PySem.W.nsIn K mainGlobals "WORDS" = some (some (.ref pa0)))
  (pl0 : K.lookup pa0 = some ⟨.type "tuple", po0, .seq #[.str "num" w0_0, .str "name" w0_1, .str "at" w0_2, .str "add" w0_3, .str "sub" w0_4, .str "mul" w0_5, .str "both" w0_6, .str "any" w0_7, .str "mix" w0_8, .str "less" w0_9, .str "same" w0_10, .str "not" w0_11, .str "div" w0_12, .str "mod" w0_13, .str "top" w0_14, .str "many" w0_15, .str "skip" w0_16, .str "plus" w0_17, .str "minus" w0_18, .str "times" w0_19, .str "turn" w0_20, .str "swap" w0_21, .str "push" w0_22, .str "pop" w0_23, .str "if" w0_24, .str "then" w0_25, .str "else" w0_26, .str "end" w0_27, .str "loop" w0_28, .str "from" w0_29, .str "do" w0_30, .str "until" w0_31, .str "local" w0_32, .str "in" w0_33, .str "call" w0_34, .str "uncall" w0_35, .str "row" w0_36, .str "proc" w0_37, .str "word" w0_38, .str "array" w0_39, .str "stack" w0_40, .str "module" w0_41, .str "needs" w0_42, .str "width" w0_43, .str "by" w0_44, .str "with" w0_45, .str "send" w0_46, .str "take" w0_47, .str "out" w0_48, .str "net" w0_49, .str "hands" w0_50, .str "channels" w0_51, .str "begin" w0_52, .str "fork" w0_53, .str "join" w0_54, .str "jump" w0_55, .str "land" w0_56, .str "set" w0_57, .str "exchange" w0_58, .str "face" w0_59, .str "code" w0_60, .str "slots" w0_61] pn0, ps0⟩)
  (pg1 : PySem.W.nsIn K mainGlobals "KINDS" = some (some (.ref pa1)))
  (pl1 : K.lookup pa1 = some ⟨.type "tuple", po1, .seq #[.str "word" w1_0, .str "array" w1_1, .str "stack" w1_2, .str "in" w1_3, .str "out" w1_4] pn1, ps1⟩)
  (pg2 : PySem.W.nsIn K mainGlobals "PAIRS" = some (some (.ref pa2)))
  (pl2 : K.lookup pa2 = some ⟨.type "tuple", po2, .seq #[.str "add" w2_0, .str "sub" w2_1, .str "mul" w2_2, .str "both" w2_3, .str "any" w2_4, .str "mix" w2_5, .str "less" w2_6, .str "same" w2_7, .str "div" w2_8, .str "mod" w2_9] pn2, ps2⟩)
  (pg3 : PySem.W.nsIn K mainGlobals "CHANGES" = some (some (.ref pa3)))
  (pl3 : K.lookup pa3 = some ⟨.type "tuple", po3, .seq #[.str "plus" w3_0, .str "minus" w3_1, .str "mix" w3_2] pn3, ps3⟩)
  (pg4 : PySem.W.nsIn K mainGlobals "MOVES" = some (some (.ref pa4)))
  (pl4 : K.lookup pa4 = some ⟨.type "tuple", po4, .seq #[.str "push" w4_0, .str "pop" w4_1, .str "send" w4_2, .str "take" w4_3] pn4, ps4⟩)
  (pg5 : PySem.W.nsIn K mainGlobals "CALLS" = some (some (.ref pa5)))
  (pl5 : K.lookup pa5 = some ⟨.type "tuple", po5, .seq #[.str "call" w5_0, .str "uncall" w5_1] pn5, ps5⟩)
  (z_abs : PySem.W.nsIn K mainGlobals "abs" = some none)
  (z_int : PySem.W.nsIn K mainGlobals "int" = some none)
  (z_len : PySem.W.nsIn K mainGlobals "len" = some none)
  (z_range : PySem.W.nsIn K mainGlobals "range" = some none)
  (z_isinstance : PySem.W.nsIn K mainGlobals "isinstance" = some none)
  (z_tuple : PySem.W.nsIn K mainGlobals "tuple" = some none)
  (z_list : PySem.W.nsIn K mainGlobals "list" = some none)
  (z_bool : PySem.W.nsIn K mainGlobals "bool" = some none)
  (z_str : PySem.W.nsIn K mainGlobals "str" = some none)
  (z_zip : PySem.W.nsIn K mainGlobals "zip" = some none)
  (z_enumerate : PySem.W.nsIn K mainGlobals "enumerate" = some none)
  (z_sorted : PySem.W.nsIn K mainGlobals "sorted" = some none)
  (z_min : PySem.W.nsIn K mainGlobals "min" = some none)
  (z_max : PySem.W.nsIn K mainGlobals "max" = some none)
  (z_all : PySem.W.nsIn K mainGlobals "all" = some none)
  (z_any : PySem.W.nsIn K mainGlobals "any" = some none)
  (z_sum : PySem.W.nsIn K mainGlobals "sum" = some none)
  (z_dict : PySem.W.nsIn K mainGlobals "dict" = some none)
  (z_set : PySem.W.nsIn K mainGlobals "set" = some none) :
    ∃ fd : FuncData, (∀ (s : Shared) (v : Value), BindsTo s fd ⟨[v], []⟩ [("script", v)]) ∧ ∀ base : Heap, K.In base → base.Ns mainGlobals mg → FnOk l.prog w K mg base CX0 67 fa fd ["script"] (spLaw K) := by
  have e := hfa.symm.trans (PySem.W.mg_of X G aL)
  cases e
  have F0 : Fn K mg "_law_draw" s_draw ["script", "salt"] := fn_mk X G (fun _ _ _ _ _ _ us hl => match us, hl with | [_, _], _ => rfl) (fun _ _ _ _ _ _ us hl => match us, hl with | [_, _], _ => rfl) a0 l0 c0 k0
  have F1 : Fn K mg "_law_any" s_any ["deal", "bound"] := fn_mk X G (fun _ _ _ _ _ _ us hl => match us, hl with | [_, _], _ => rfl) (fun _ _ _ _ _ _ us hl => match us, hl with | [_, _], _ => rfl) a1 l1 c1 k1
  have F2 : Fn K mg "_law_of" s_of ["deal", "some"] := fn_mk X G (fun _ _ _ _ _ _ us hl => match us, hl with | [_, _], _ => rfl) (fun _ _ _ _ _ _ us hl => match us, hl with | [_, _], _ => rfl) a2 l2 c2 k2
  have F3 : Fn K mg "_law_is_name" s_lisname ["value"] := fn_mk X G (fun _ _ _ _ _ _ us hl => match us, hl with | [_], _ => rfl) (fun _ _ _ _ _ _ us hl => match us, hl with | [_], _ => rfl) a3 l3 c3 k3
  have F4 : Fn K mg "_law_letters" s_letters ["deal", "many"] := fn_mk X G (fun _ _ _ _ _ _ us hl => match us, hl with | [_, _], _ => rfl) (fun _ _ _ _ _ _ us hl => match us, hl with | [_, _], _ => rfl) a4 l4 c4 k4
  have F5 : Fn K mg "_law_spots" s_spots ["value"] := fn_mk X G (fun _ _ _ _ _ _ us hl => match us, hl with | [_], _ => rfl) (fun _ _ _ _ _ _ us hl => match us, hl with | [_], _ => rfl) a5 l5 c5 k5
  have F6 : Fn K mg "_law_part_at" s_partat ["value", "way"] := fn_mk X G (fun _ _ _ _ _ _ us hl => match us, hl with | [_, _], _ => rfl) (fun _ _ _ _ _ _ us hl => match us, hl with | [_, _], _ => rfl) a6 l6 c6 k6
  have F7 : Fn K mg "_law_put_at" s_putat ["value", "way", "part"] := fn_mk X G (fun _ _ _ _ _ _ us hl => match us, hl with | [_, _, _], _ => rfl) (fun _ _ _ _ _ _ us hl => match us, hl with | [_, _, _], _ => rfl) a7 l7 c7 k7
  have F8 : Fn K mg "_law_near" s_nearX ["deal", "value"] := fn_mk X G (fun _ _ _ _ _ _ us hl => match us, hl with | [_, _], _ => rfl) (fun _ _ _ _ _ _ us hl => match us, hl with | [_, _], _ => rfl) a8 l8 c8 k8
  have F9 : Fn K mg "_law_same" s_same ["value", "due"] := fn_mk X G (fun _ _ _ _ _ _ us hl => match us, hl with | [_, _], _ => rfl) (fun _ _ _ _ _ _ us hl => match us, hl with | [_, _], _ => rfl) a9 l9 c9 k9
  have F10 : Fn K mg "_law_are_kinds" s_lkinds ["value"] := fn_mk X G (fun _ _ _ _ _ _ us hl => match us, hl with | [_], _ => rfl) (fun _ _ _ _ _ _ us hl => match us, hl with | [_], _ => rfl) a10 l10 c10 k10
  have F11 : Fn K mg "_law_right_names" s_rnames ["some"] := fn_mk X G (fun _ _ _ _ _ _ us hl => match us, hl with | [_], _ => rfl) (fun _ _ _ _ _ _ us hl => match us, hl with | [_], _ => rfl) a11 l11 c11 k11
  have F12 : Fn K mg "_law_skips" s_skips ["value"] := fn_mk X G (fun _ _ _ _ _ _ us hl => match us, hl with | [_], _ => rfl) (fun _ _ _ _ _ _ us hl => match us, hl with | [_], _ => rfl) a12 l12 c12 k12
  have F13 : Fn K mg "_law_right_proc" s_rproc ["value"] := fn_mk X G (fun _ _ _ _ _ _ us hl => match us, hl with | [_], _ => rfl) (fun _ _ _ _ _ _ us hl => match us, hl with | [_], _ => rfl) a13 l13 c13 k13
  have F14 : Fn K mg "_law_is_int" s_lisint ["value"] := fn_mk X G (fun _ _ _ _ _ _ us hl => match us, hl with | [_], _ => rfl) (fun _ _ _ _ _ _ us hl => match us, hl with | [_], _ => rfl) a14 l14 c14 k14
  have F15 : Fn K mg "_law_width" s_lwidth ["value"] := fn_mk X G (fun _ _ _ _ _ _ us hl => match us, hl with | [_], _ => rfl) (fun _ _ _ _ _ _ us hl => match us, hl with | [_], _ => rfl) a15 l15 c15 k15
  have F16 : Fn K mg "_law_rising" s_rising ["some"] := fn_mk X G (fun _ _ _ _ _ _ us hl => match us, hl with | [_], _ => rfl) (fun _ _ _ _ _ _ us hl => match us, hl with | [_], _ => rfl) a16 l16 c16 k16
  have F17 : Fn K mg "_law_right_module" s_rmod ["value"] := fn_mk X G (fun _ _ _ _ _ _ us hl => match us, hl with | [_], _ => rfl) (fun _ _ _ _ _ _ us hl => match us, hl with | [_], _ => rfl) a17 l17 c17 k17
  have F18 : Fn K mg "_law_right_face" s_rface ["value"] := fn_mk X G (fun _ _ _ _ _ _ us hl => match us, hl with | [_], _ => rfl) (fun _ _ _ _ _ _ us hl => match us, hl with | [_], _ => rfl) a18 l18 c18 k18
  have F19 : Fn K mg "_law_right_faces" s_rfaces ["value"] := fn_mk X G (fun _ _ _ _ _ _ us hl => match us, hl with | [_], _ => rfl) (fun _ _ _ _ _ _ us hl => match us, hl with | [_], _ => rfl) a19 l19 c19 k19
  have F20 : Fn K mg "is_name" s_isname ["value"] := fn_mk X G (fun _ _ _ _ _ _ us hl => match us, hl with | [_], _ => rfl) (fun _ _ _ _ _ _ us hl => match us, hl with | [_], _ => rfl) a20 l20 c20 k20
  have F21 : Fn K mg "is_kind" s_iskind ["value"] := fn_mk X G (fun _ _ _ _ _ _ us hl => match us, hl with | [_], _ => rfl) (fun _ _ _ _ _ _ us hl => match us, hl with | [_], _ => rfl) a21 l21 c21 k21
  have F22 : Fn K mg "are_parameters" s_parms ["value"] := fn_mk X G (fun _ _ _ _ _ _ us hl => match us, hl with | [_], _ => rfl) (fun _ _ _ _ _ _ us hl => match us, hl with | [_], _ => rfl) a22 l22 c22 k22
  have F23 : Fn K mg "is_integer" s_isint ["value"] := fn_mk X G (fun _ _ _ _ _ _ us hl => match us, hl with | [_], _ => rfl) (fun _ _ _ _ _ _ us hl => match us, hl with | [_], _ => rfl) a23 l23 c23 k23
  have F24 : Fn K mg "inner_of_expression" s_inner ["value"] := fn_mk X G (fun _ _ _ _ _ _ us hl => match us, hl with | [_], _ => rfl) (fun _ _ _ _ _ _ us hl => match us, hl with | [_], _ => rfl) a24 l24 c24 k24
  have F25 : Fn K mg "is_expression" s_isexp ["value"] := fn_mk X G (fun _ _ _ _ _ _ us hl => match us, hl with | [_], _ => rfl) (fun _ _ _ _ _ _ us hl => match us, hl with | [_], _ => rfl) a25 l25 c25 k25
  have F26 : Fn K mg "is_called" s_iscalled ["value"] := fn_mk X G (fun _ _ _ _ _ _ us hl => match us, hl with | [_], _ => rfl) (fun _ _ _ _ _ _ us hl => match us, hl with | [_], _ => rfl) a26 l26 c26 k26
  have F27 : Fn K mg "are_names" s_arenames ["value", "most"] := fn_mk X G (fun _ _ _ _ _ _ us hl => match us, hl with | [_, _], _ => rfl) (fun _ _ _ _ _ _ us hl => match us, hl with | [_, _], _ => rfl) a27 l27 c27 k27
  have F28 : Fn K mg "is_place" s_isplace ["value"] := fn_mk X G (fun _ _ _ _ _ _ us hl => match us, hl with | [_], _ => rfl) (fun _ _ _ _ _ _ us hl => match us, hl with | [_], _ => rfl) a28 l28 c28 k28
  have F29 : Fn K mg "is_right_plain" s_rplain ["value"] := fn_mk X G (fun _ _ _ _ _ _ us hl => match us, hl with | [_], _ => rfl) (fun _ _ _ _ _ _ us hl => match us, hl with | [_], _ => rfl) a29 l29 c29 k29
  have F30 : Fn K mg "is_right_here" s_rhere ["value"] := fn_mk X G (fun _ _ _ _ _ _ us hl => match us, hl with | [_], _ => rfl) (fun _ _ _ _ _ _ us hl => match us, hl with | [_], _ => rfl) a30 l30 c30 k30
  have F31 : Fn K mg "inner_statements" s_innerst ["statement"] := fn_mk X G (fun _ _ _ _ _ _ us hl => match us, hl with | [_], _ => rfl) (fun _ _ _ _ _ _ us hl => match us, hl with | [_], _ => rfl) a31 l31 c31 k31
  have F32 : Fn K mg "is_statement" s_isst ["value"] := fn_mk X G (fun _ _ _ _ _ _ us hl => match us, hl with | [_], _ => rfl) (fun _ _ _ _ _ _ us hl => match us, hl with | [_], _ => rfl) a32 l32 c32 k32
  have F33 : Fn K mg "is_procedure" s_proc ["value"] := fn_mk X G (fun _ _ _ _ _ _ us hl => match us, hl with | [_], _ => rfl) (fun _ _ _ _ _ _ us hl => match us, hl with | [_], _ => rfl) a33 l33 c33 k33
  have F34 : Fn K mg "is_width" s_iswid ["value"] := fn_mk X G (fun _ _ _ _ _ _ us hl => match us, hl with | [_], _ => rfl) (fun _ _ _ _ _ _ us hl => match us, hl with | [_], _ => rfl) a34 l34 c34 k34
  have F35 : Fn K mg "are_ascending" s_asc ["names"] := fn_mk X G (fun _ _ _ _ _ _ us hl => match us, hl with | [_], _ => rfl) (fun _ _ _ _ _ _ us hl => match us, hl with | [_], _ => rfl) a35 l35 c35 k35
  have F36 : Fn K mg "are_needs" s_needs ["value"] := fn_mk X G (fun _ _ _ _ _ _ us hl => match us, hl with | [_], _ => rfl) (fun _ _ _ _ _ _ us hl => match us, hl with | [_], _ => rfl) a36 l36 c36 k36
  have F37 : Fn K mg "is_module" s_module ["value"] := fn_mk X G (fun _ _ _ _ _ _ us hl => match us, hl with | [_], _ => rfl) (fun _ _ _ _ _ _ us hl => match us, hl with | [_], _ => rfl) a37 l37 c37 k37
  have F38 : Fn K mg "are_kinds" s_arekinds ["value"] := fn_mk X G (fun _ _ _ _ _ _ us hl => match us, hl with | [_], _ => rfl) (fun _ _ _ _ _ _ us hl => match us, hl with | [_], _ => rfl) a38 l38 c38 k38
  have F39 : Fn K mg "is_face_row" s_frow ["value"] := fn_mk X G (fun _ _ _ _ _ _ us hl => match us, hl with | [_], _ => rfl) (fun _ _ _ _ _ _ us hl => match us, hl with | [_], _ => rfl) a39 l39 c39 k39
  have F40 : Fn K mg "is_face" s_face ["value"] := fn_mk X G (fun _ _ _ _ _ _ us hl => match us, hl with | [_], _ => rfl) (fun _ _ _ _ _ _ us hl => match us, hl with | [_], _ => rfl) a40 l40 c40 k40
  have F41 : Fn K mg "are_faces" s_faces ["value"] := fn_mk X G (fun _ _ _ _ _ _ us hl => match us, hl with | [_], _ => rfl) (fun _ _ _ _ _ _ us hl => match us, hl with | [_], _ => rfl) a41 l41 c41 k41
  have Z : Bz mg := ⟨PySem.W.mg_none_of X G z_abs, PySem.W.mg_none_of X G z_int, PySem.W.mg_none_of X G z_len, PySem.W.mg_none_of X G z_range, PySem.W.mg_none_of X G z_isinstance, PySem.W.mg_none_of X G z_tuple, PySem.W.mg_none_of X G z_list, PySem.W.mg_none_of X G z_bool, PySem.W.mg_none_of X G z_str, PySem.W.mg_none_of X G z_zip, PySem.W.mg_none_of X G z_enumerate, PySem.W.mg_none_of X G z_sorted, PySem.W.mg_none_of X G z_min, PySem.W.mg_none_of X G z_max, PySem.W.mg_none_of X G z_all, PySem.W.mg_none_of X G z_any, PySem.W.mg_none_of X G z_sum, PySem.W.mg_none_of X G z_dict⟩
  have Zset : mg "set" = none := PySem.W.mg_none_of X G z_set
  have g_MOST_SIGNS : ∃ u, mg "MOST_SIGNS" = some u ∧ RelV (.int 12) u := ⟨_, PySem.W.mg_of X G gc0, _, rfl⟩
  have g_LETTERS : ∃ u, mg "LETTERS" = some u ∧ RelV (.str "abcdefghijklmnopqrstuvwxyz") u := ⟨_, PySem.W.mg_of X G gc1, _, rfl⟩
  have g_DIGITS : ∃ u, mg "DIGITS" = some u ∧ RelV (.str "0123456789") u := ⟨_, PySem.W.mg_of X G gc2, _, rfl⟩
  have g_MOST_KINDS : ∃ u, mg "MOST_KINDS" = some u ∧ RelV (.int 20) u := ⟨_, PySem.W.mg_of X G gc3, _, rfl⟩
  have g_MOST_PARTS : ∃ u, mg "MOST_PARTS" = some u ∧ RelV (.int 60) u := ⟨_, PySem.W.mg_of X G gc4, _, rfl⟩
  have g_MOST_DEEP : ∃ u, mg "MOST_DEEP" = some u ∧ RelV (.int 20) u := ⟨_, PySem.W.mg_of X G gc5, _, rfl⟩
  have g_MOST_STATEMENTS : ∃ u, mg "MOST_STATEMENTS" = some u ∧ RelV (.int 400) u := ⟨_, PySem.W.mg_of X G gc6, _, rfl⟩
  have g_MOST_WIDTH : ∃ u, mg "MOST_WIDTH" = some u ∧ RelV (.int 64) u := ⟨_, PySem.W.mg_of X G gc7, _, rfl⟩
  have g_MOST_NEEDS : ∃ u, mg "MOST_NEEDS" = some u ∧ RelV (.int 20) u := ⟨_, PySem.W.mg_of X G gc8, _, rfl⟩
  have g_MOST_PROCS : ∃ u, mg "MOST_PROCS" = some u ∧ RelV (.int 40) u := ⟨_, PySem.W.mg_of X G gc9, _, rfl⟩
  have g_MOST_SHELF : ∃ u, mg "MOST_SHELF" = some u ∧ RelV (.int 40) u := ⟨_, PySem.W.mg_of X G gc10, _, rfl⟩
  have gT_WORDS : ∃ pa, (∃ u, mg "WORDS" = some u ∧ RelV (.ref pa) u) ∧ ∀ H, SqT K H pa wordsV := ⟨pa0, ⟨_, PySem.W.mg_of X G pg0, rfl⟩, fun H => .inr ⟨_, _, _, pl0, rfl, rfl, (by show 62 ≤ sizeLine; decide), .cons ⟨_, rfl⟩ (.cons ⟨_, rfl⟩ (.cons ⟨_, rfl⟩ (.cons ⟨_, rfl⟩ (.cons ⟨_, rfl⟩ (.cons ⟨_, rfl⟩ (.cons ⟨_, rfl⟩ (.cons ⟨_, rfl⟩ (.cons ⟨_, rfl⟩ (.cons ⟨_, rfl⟩ (.cons ⟨_, rfl⟩ (.cons ⟨_, rfl⟩ (.cons ⟨_, rfl⟩ (.cons ⟨_, rfl⟩ (.cons ⟨_, rfl⟩ (.cons ⟨_, rfl⟩ (.cons ⟨_, rfl⟩ (.cons ⟨_, rfl⟩ (.cons ⟨_, rfl⟩ (.cons ⟨_, rfl⟩ (.cons ⟨_, rfl⟩ (.cons ⟨_, rfl⟩ (.cons ⟨_, rfl⟩ (.cons ⟨_, rfl⟩ (.cons ⟨_, rfl⟩ (.cons ⟨_, rfl⟩ (.cons ⟨_, rfl⟩ (.cons ⟨_, rfl⟩ (.cons ⟨_, rfl⟩ (.cons ⟨_, rfl⟩ (.cons ⟨_, rfl⟩ (.cons ⟨_, rfl⟩ (.cons ⟨_, rfl⟩ (.cons ⟨_, rfl⟩ (.cons ⟨_, rfl⟩ (.cons ⟨_, rfl⟩ (.cons ⟨_, rfl⟩ (.cons ⟨_, rfl⟩ (.cons ⟨_, rfl⟩ (.cons ⟨_, rfl⟩ (.cons ⟨_, rfl⟩ (.cons ⟨_, rfl⟩ (.cons ⟨_, rfl⟩ (.cons ⟨_, rfl⟩ (.cons ⟨_, rfl⟩ (.cons ⟨_, rfl⟩ (.cons ⟨_, rfl⟩ (.cons ⟨_, rfl⟩ (.cons ⟨_, rfl⟩ (.cons ⟨_, rfl⟩ (.cons ⟨_, rfl⟩ (.cons ⟨_, rfl⟩ (.cons ⟨_, rfl⟩ (.cons ⟨_, rfl⟩ (.cons ⟨_, rfl⟩ (.cons ⟨_, rfl⟩ (.cons ⟨_, rfl⟩ (.cons ⟨_, rfl⟩ (.cons ⟨_, rfl⟩ (.cons ⟨_, rfl⟩ (.cons ⟨_, rfl⟩ (.cons ⟨_, rfl⟩ (.nil))))))))))))))))))))))))))))))))))))))))))))))))))))))))))))))⟩⟩
  have gT_KINDS : ∃ pa, (∃ u, mg "KINDS" = some u ∧ RelV (.ref pa) u) ∧ ∀ H, SqT K H pa kindsV := ⟨pa1, ⟨_, PySem.W.mg_of X G pg1, rfl⟩, fun H => .inr ⟨_, _, _, pl1, rfl, rfl, (by show 5 ≤ sizeLine; decide), .cons ⟨_, rfl⟩ (.cons ⟨_, rfl⟩ (.cons ⟨_, rfl⟩ (.cons ⟨_, rfl⟩ (.cons ⟨_, rfl⟩ (.nil)))))⟩⟩
  have gT_PAIRS : ∃ pa, (∃ u, mg "PAIRS" = some u ∧ RelV (.ref pa) u) ∧ ∀ H, SqT K H pa pairsP := ⟨pa2, ⟨_, PySem.W.mg_of X G pg2, rfl⟩, fun H => .inr ⟨_, _, _, pl2, rfl, rfl, (by show 10 ≤ sizeLine; decide), .cons ⟨_, rfl⟩ (.cons ⟨_, rfl⟩ (.cons ⟨_, rfl⟩ (.cons ⟨_, rfl⟩ (.cons ⟨_, rfl⟩ (.cons ⟨_, rfl⟩ (.cons ⟨_, rfl⟩ (.cons ⟨_, rfl⟩ (.cons ⟨_, rfl⟩ (.cons ⟨_, rfl⟩ (.nil))))))))))⟩⟩
  have gT_CHANGES : ∃ pa, (∃ u, mg "CHANGES" = some u ∧ RelV (.ref pa) u) ∧ ∀ H, SqT K H pa changesV := ⟨pa3, ⟨_, PySem.W.mg_of X G pg3, rfl⟩, fun H => .inr ⟨_, _, _, pl3, rfl, rfl, (by show 3 ≤ sizeLine; decide), .cons ⟨_, rfl⟩ (.cons ⟨_, rfl⟩ (.cons ⟨_, rfl⟩ (.nil)))⟩⟩
  have gT_MOVES : ∃ pa, (∃ u, mg "MOVES" = some u ∧ RelV (.ref pa) u) ∧ ∀ H, SqT K H pa movesV := ⟨pa4, ⟨_, PySem.W.mg_of X G pg4, rfl⟩, fun H => .inr ⟨_, _, _, pl4, rfl, rfl, (by show 4 ≤ sizeLine; decide), .cons ⟨_, rfl⟩ (.cons ⟨_, rfl⟩ (.cons ⟨_, rfl⟩ (.cons ⟨_, rfl⟩ (.nil))))⟩⟩
  have gT_CALLS : ∃ pa, (∃ u, mg "CALLS" = some u ∧ RelV (.ref pa) u) ∧ ∀ H, SqT K H pa callsV := ⟨pa5, ⟨_, PySem.W.mg_of X G pg5, rfl⟩, fun H => .inr ⟨_, _, _, pl5, rfl, rfl, (by show 2 ≤ sizeLine; decide), .cons ⟨_, rfl⟩ (.cons ⟨_, rfl⟩ (.nil))⟩⟩
  refine ⟨PySem.W.fnOf "law" "law" (defArgs s_law) (defBody s_law) (defScope s_law) .none kVL dcL pmL anL cdL ctL, fun s v => .of_eq rfl, fun base _ _ => ?_⟩
  have C0 : Cal l.prog w K mg base 1 "_law_draw" (spDraw K) := C_draw F0 Z
  have C1 : Cal l.prog w K mg base 1 "_law_any" spAny := C_any F1 Z
  have C2 : Cal l.prog w K mg base 2 "_law_of" spOf := C_of F2 Z C1
  have C3 : Cal l.prog w K mg base 1 "_law_is_name" spName := C_lisname F3 Z
  have C4 : Cal l.prog w K mg base 3 "_law_letters" spLetters := C_letters F4 Z C1 C2 C3
  have C5 : Cal l.prog w K mg base (63 + 1) "_law_spots" (spSpots 63) := C_spots F5 Z 63
  have C6 : Cal l.prog w K mg base 1 "_law_part_at" spPartAt := C_partat F6 Z
  have C7 : Cal l.prog w K mg base (63 + 1) "_law_put_at" (spPutAt 63) := C_putat F7 Z 63
  have C8 : Cal l.prog w K mg base 65 "_law_near" spNearX := C_nearX F8 Z C2 C5 C6 C7
  have C9 : Cal l.prog w K mg base (63 + 1) "_law_same" (spSame 63) := C_same F9 Z 63
  have C10 : Cal l.prog w K mg base 1 "_law_are_kinds" (spB 63 areKindsD) := C_lkinds F10 Z
  have C11 : Cal l.prog w K mg base 2 "_law_right_names" spRNames := C_rnames F11 Z Zset C3
  have C12 : Cal l.prog w K mg base (63 + 1) "_law_skips" (spSkips 63) := C_skips F12 Z 63
  have C13 : Cal l.prog w K mg base 65 "_law_right_proc" (spB 62 (procG skipsD)) := C_rproc F13 Z C9 C3 C10 C11 C12
  have C14 : Cal l.prog w K mg base 1 "_law_is_int" spIntg := C_lisint F14 Z
  have C15 : Cal l.prog w K mg base 2 "_law_width" spWid := C_lwidth F15 Z C14
  have C16 : Cal l.prog w K mg base 1 "_law_rising" (spRis K) := C_rising F16 Z
  have C17 : Cal l.prog w K mg base 66 "_law_right_module" (spB 62 (moduleG skipsD)) := C_rmod F17 Z C9 C3 C11 C15 C16 C13
  have C18 : Cal l.prog w K mg base 65 "_law_right_face" (spB 62 faceD) := C_rface F18 Z C9 C3 C11 C15 C10
  have C19 : Cal l.prog w K mg base 66 "_law_right_faces" (spB 62 facesD) := C_rfaces F19 Z C16 C18
  have C20 : CalK l.prog w K mg base 1 "is_name" ["value"] spNameX := C_isname F20 Z gT_WORDS g_MOST_SIGNS g_LETTERS g_DIGITS
  have C21 : CalK l.prog w K mg base 1 "is_kind" ["value"] spKind := C_iskind F21 Z gT_KINDS
  have C22 : Cal l.prog w K mg base 2 "are_parameters" (spB 63 parmsD) := C_parms F22 Z Zset g_MOST_KINDS C21 C20
  have C23 : Cal l.prog w K mg base 1 "is_integer" spIntg := C_isint F23 Z
  have C24 : Cal l.prog w K mg base 2 "inner_of_expression" spInner := C_inner F24 Z gT_PAIRS C23 C20
  have C25 : CalK l.prog w K mg base 3 "is_expression" ["value"] spIsExp := C_isexp F25 Z g_MOST_PARTS C24
  have C26 : Cal l.prog w K mg base 2 "is_called" spCalled := C_iscalled F26 Z C20
  have C27 : Cal l.prog w K mg base 2 "are_names" spNames := C_arenames F27 Z C20
  have C28 : CalK l.prog w K mg base 4 "is_place" ["value"] spPlace := C_isplace F28 Z C25
  have C29 : Cal l.prog w K mg base 5 "is_right_plain" spPlain := C_rplain F29 Z gT_CHANGES gT_MOVES C23 C20 C25 C28
  have C30 : Cal l.prog w K mg base 6 "is_right_here" spRight := C_rhere F30 Z gT_CALLS g_MOST_KINDS C20 C25 C26 C27 C29
  have C31 : Cal l.prog w K mg base 1 "inner_statements" spInners := C_innerst F31 Z
  have C32 : CalK l.prog w K mg base 7 "is_statement" ["value"] spIsSt := C_isst F32 Z g_MOST_DEEP g_MOST_STATEMENTS C30 C31
  have C33 : CalK l.prog w K mg base 8 "is_procedure" ["value"] (spB 62 (procG rightSt)) := C_proc F33 Z C20 C22 C32
  have C34 : Cal l.prog w K mg base 2 "is_width" spWid := C_iswid F34 Z g_MOST_WIDTH C23
  have C35 : Cal l.prog w K mg base 1 "are_ascending" (spRis K) := C_asc F35 Z
  have C36 : Cal l.prog w K mg base 3 "are_needs" (spB 63 needsD) := C_needs F36 Z g_MOST_NEEDS C27 C35
  have C37 : CalK l.prog w K mg base 9 "is_module" ["value"] (spB 62 (moduleG rightSt)) := C_module F37 Z Zset g_MOST_PROCS C20 C34 C36 C33
  have C38 : CalK l.prog w K mg base 2 "are_kinds" ["value"] spKinds := C_arekinds F38 Z g_MOST_KINDS C21.cal
  have C39 : Cal l.prog w K mg base 3 "is_face_row" (spB 62 faceRowD) := C_frow F39 Z C20 C38
  have C40 : CalK l.prog w K mg base 4 "is_face" ["value"] (spB 62 faceD) := C_face F40 Z Zset g_MOST_PROCS C20 C34 C39
  have C41 : CalK l.prog w K mg base 5 "are_faces" ["value"] (spB 62 facesD) := C_faces F41 Z g_MOST_SHELF C40 C35
  exact C_law (fun_mk (st := s_law) lL cL_ kL) Z C0 C1 C2 C4 C8 C9 C13 C17 C18 C19 C33 C37 C40 C41
end BkL
open PySem PySem.W PyProof.Rows
set_option maxHeartbeats 0 in
theorem PySem.Challenge.cw_backagain_k14_whole_modules_faces_holds : PySem.Challenge.rw_backagain_k14_whole_modules_faces.Holds := by
  w_on; o_law; k_head; (case hw => w_witness2)
  k_fill
  refine L2.walk_of (l := PySem.Challenge.rw_backagain_k14_whole_modules_faces) (n := 63) (k := 67) (x := "script") (CX := fun _ => L2.CX0) (sp := fun w => BkL.spLaw _) rfl (by decide) rfl ⟨rfl, by decide, by decide⟩ (fun w h Y => PySem.W.kIn_of Y) ?F (fun _ _ a ns hl _ hS => ⟨a, ns, rfl, hS, hl, fun _ => rfl⟩) (fun _ _ _ _ _ h => h)
  case F =>
    intro w mg fa h KX G hmg
    refine' BkL.all_mk KX G hmg ?a0 ?l0 ?c0 ?k0 ?a1 ?l1 ?c1 ?k1 ?a2 ?l2 ?c2 ?k2 ?a3 ?l3 ?c3 ?k3 ?a4 ?l4 ?c4 ?k4 ?a5 ?l5 ?c5 ?k5 ?a6 ?l6 ?c6 ?k6 ?a7 ?l7 ?c7 ?k7 ?a8 ?l8 ?c8 ?k8 ?a9 ?l9 ?c9 ?k9 ?a10 ?l10 ?c10 ?k10 ?a11 ?l11 ?c11 ?k11 ?a12 ?l12 ?c12 ?k12 ?a13 ?l13 ?c13 ?k13 ?a14 ?l14 ?c14 ?k14 ?a15 ?l15 ?c15 ?k15 ?a16 ?l16 ?c16 ?k16 ?a17 ?l17 ?c17 ?k17 ?a18 ?l18 ?c18 ?k18 ?a19 ?l19 ?c19 ?k19 ?a20 ?l20 ?c20 ?k20 ?a21 ?l21 ?c21 ?k21 ?a22 ?l22 ?c22 ?k22 ?a23 ?l23 ?c23 ?k23 ?a24 ?l24 ?c24 ?k24 ?a25 ?l25 ?c25 ?k25 ?a26 ?l26 ?c26 ?k26 ?a27 ?l27 ?c27 ?k27 ?a28 ?l28 ?c28 ?k28 ?a29 ?l29 ?c29 ?k29 ?a30 ?l30 ?c30 ?k30 ?a31 ?l31 ?c31 ?k31 ?a32 ?l32 ?c32 ?k32 ?a33 ?l33 ?c33 ?k33 ?a34 ?l34 ?c34 ?k34 ?a35 ?l35 ?c35 ?k35 ?a36 ?l36 ?c36 ?k36 ?a37 ?l37 ?c37 ?k37 ?a38 ?l38 ?c38 ?k38 ?a39 ?l39 ?c39 ?k39 ?a40 ?l40 ?c40 ?k40 ?a41 ?l41 ?c41 ?k41 ?aL ?lL ?cL_ ?kL ?gc0 ?gc1 ?gc2 ?gc3 ?gc4 ?gc5 ?gc6 ?gc7 ?gc8 ?gc9 ?gc10 ?pg0 ?pl0 ?pg1 ?pl1 ?pg2 ?pl2 ?pg3 ?pl3 ?pg4 ?pl4 ?pg5 ?pl5 ?z_abs ?z_int ?z_len ?z_range ?z_isinstance ?z_tuple ?z_list ?z_bool ?z_str ?z_zip ?z_enumerate ?z_sorted ?z_min ?z_max ?z_all ?z_any ?z_sum ?z_dict ?z_set
    (case a0 => k_is); (case l0 => k_is); (case c0 => k_is); (case k0 => k_is); (case a1 => k_is); (case l1 => k_is); (case c1 => k_is); (case k1 => k_is); (case a2 => k_is); (case l2 => k_is); (case c2 => k_is); (case k2 => k_is); (case a3 => k_is); (case l3 => k_is); (case c3 => k_is); (case k3 => k_is); (case a4 => k_is); (case l4 => k_is); (case c4 => k_is); (case k4 => k_is); (case a5 => k_is); (case l5 => k_is); (case c5 => k_is); (case k5 => k_is); (case a6 => k_is); (case l6 => k_is); (case c6 => k_is); (case k6 => k_is); (case a7 => k_is); (case l7 => k_is); (case c7 => k_is); (case k7 => k_is); (case a8 => k_is); (case l8 => k_is); (case c8 => k_is); (case k8 => k_is); (case a9 => k_is); (case l9 => k_is); (case c9 => k_is); (case k9 => k_is); (case a10 => k_is); (case l10 => k_is); (case c10 => k_is); (case k10 => k_is); (case a11 => k_is); (case l11 => k_is); (case c11 => k_is); (case k11 => k_is); (case a12 => k_is); (case l12 => k_is); (case c12 => k_is); (case k12 => k_is); (case a13 => k_is); (case l13 => k_is); (case c13 => k_is); (case k13 => k_is); (case a14 => k_is); (case l14 => k_is); (case c14 => k_is); (case k14 => k_is); (case a15 => k_is); (case l15 => k_is); (case c15 => k_is); (case k15 => k_is); (case a16 => k_is); (case l16 => k_is); (case c16 => k_is); (case k16 => k_is); (case a17 => k_is); (case l17 => k_is); (case c17 => k_is); (case k17 => k_is); (case a18 => k_is); (case l18 => k_is); (case c18 => k_is); (case k18 => k_is); (case a19 => k_is); (case l19 => k_is); (case c19 => k_is); (case k19 => k_is); (case a20 => k_is); (case l20 => k_is); (case c20 => k_is); (case k20 => k_is); (case a21 => k_is); (case l21 => k_is); (case c21 => k_is); (case k21 => k_is); (case a22 => k_is); (case l22 => k_is); (case c22 => k_is); (case k22 => k_is); (case a23 => k_is); (case l23 => k_is); (case c23 => k_is); (case k23 => k_is); (case a24 => k_is); (case l24 => k_is); (case c24 => k_is); (case k24 => k_is); (case a25 => k_is); (case l25 => k_is); (case c25 => k_is); (case k25 => k_is); (case a26 => k_is); (case l26 => k_is); (case c26 => k_is); (case k26 => k_is); (case a27 => k_is); (case l27 => k_is); (case c27 => k_is); (case k27 => k_is); (case a28 => k_is); (case l28 => k_is); (case c28 => k_is); (case k28 => k_is); (case a29 => k_is); (case l29 => k_is); (case c29 => k_is); (case k29 => k_is); (case a30 => k_is); (case l30 => k_is); (case c30 => k_is); (case k30 => k_is); (case a31 => k_is); (case l31 => k_is); (case c31 => k_is); (case k31 => k_is); (case a32 => k_is); (case l32 => k_is); (case c32 => k_is); (case k32 => k_is); (case a33 => k_is); (case l33 => k_is); (case c33 => k_is); (case k33 => k_is); (case a34 => k_is); (case l34 => k_is); (case c34 => k_is); (case k34 => k_is); (case a35 => k_is); (case l35 => k_is); (case c35 => k_is); (case k35 => k_is); (case a36 => k_is); (case l36 => k_is); (case c36 => k_is); (case k36 => k_is); (case a37 => k_is); (case l37 => k_is); (case c37 => k_is); (case k37 => k_is); (case a38 => k_is); (case l38 => k_is); (case c38 => k_is); (case k38 => k_is); (case a39 => k_is); (case l39 => k_is); (case c39 => k_is); (case k39 => k_is); (case a40 => k_is); (case l40 => k_is); (case c40 => k_is); (case k40 => k_is); (case a41 => k_is); (case l41 => k_is); (case c41 => k_is); (case k41 => k_is); (case aL => k_is); (case lL => k_is); (case cL_ => k_is); (case kL => k_is); (case gc0 => k_is); (case gc1 => k_is); (case gc2 => k_is); (case gc3 => k_is); (case gc4 => k_is); (case gc5 => k_is); (case gc6 => k_is); (case gc7 => k_is); (case gc8 => k_is); (case gc9 => k_is); (case gc10 => k_is); (case pg0 => k_is); (case pl0 => k_is); (case pg1 => k_is); (case pl1 => k_is); (case pg2 => k_is); (case pl2 => k_is); (case pg3 => k_is); (case pl3 => k_is); (case pg4 => k_is); (case pl4 => k_is); (case pg5 => k_is); (case pl5 => k_is); (case z_abs => k_is); (case z_int => k_is); (case z_len => k_is); (case z_range => k_is); (case z_isinstance => k_is); (case z_tuple => k_is); (case z_list => k_is); (case z_bool => k_is); (case z_str => k_is); (case z_zip => k_is); (case z_enumerate => k_is); (case z_sorted => k_is); (case z_min => k_is); (case z_max => k_is); (case z_all => k_is); (case z_any => k_is); (case z_sum => k_is); (case z_dict => k_is); (case z_set => k_is)
end
